/- The functions do what their models say. -/
import Derived.Test.YtebmlphobgaboabLatestTablesLifted3
import Derived.Test.YtebmlphobgaboabRows
namespace Go.Proofs.Ytebmlphobgaboab
open Go.RowKit

set_option maxRecDepth 100000 in
theorem spec_l03Star_ok (F : Nat) (aw : List (List Int)) (av : Option Addr) (aO az : Nat) (aS : aO = aw.length) (r : List (List Int) × Bool) (W : World) (hm : spec_l03Star F aw = some r) (aP : RdM W av aw) :
  Calls Try.prog 83 [.slice av aO az].toArray W fun e w' => ∃ v, e = .returned v ∧ ∃ A143, ∃ n144, ∃ c145, ∃ vs147, v = .tuple #[.slice A143 n144 c145, .bool r.2] ∧ n144 = r.1.length ∧ St [] W w' [.mat A143 n144 c145 28 2 vs147 r.1] := by
 subst aS
 unfold spec_l03Star at hm
 refine Calls.enter (N := 33) Try.func83 rfl rfl rfl (fun a hf => ?_)
 have hs := St.start W
 obtain ⟨w, hw_⟩ : ∃ w, w = W := ⟨W, rfl⟩
 clear hw_ w
 refine wpL_seq <| wpL_region ?_
 refine sY hf hs rfl rfl rfl (Y_assign rfl rfl) ?_; clear hf; intro a hf
 refine sY hf hs rfl rfl rfl (Y_assign rfl rfl) ?_; clear hf; intro a hf
 refine wpO_nil <| wpL_seq <| wpL_region ?_
 refine sY hf hs rfl rfl rfl (Y_move rfl rfl) ?_; clear hf; intro a hf
 refine sY hf hs rfl rfl rfl (Y_lenH rfl rfl el40 rfl) ?_; clear hf; intro a hf
 refine sY hf hs rfl rfl rfl (Y_assign rfl rfl) ?_; clear hf; intro a hf
 refine wpO_nil <| wpL_seq <| wpL_region ?_
 refine sY hf hs rfl rfl rfl (Y_move rfl rfl) ?_; clear hf; intro a hf
 obtain ⟨r1, hc2, hm⟩ := bind_some hm
 refine sCall hf rfl rfl rfl rfl (cap := []) rfl rfl en150 (spec_l02Unit_ok F (aw.length : Int) _ _ hc2) ?_; clear hf
 rintro _ w ⟨A3, n4, c5, vs7, rfl, hn6, hs1⟩ a hf
 have hs : St [] W w [.mat A3 n4 c5 28 2 vs7 r1] := hs.join hs1
 clear hs1
 refine sY hf hs rfl rfl rfl (Y_assign rfl rfl) ?_; clear hf; intro a hf
 refine wpO_nil <| wpL_seq <| wpL_seq <| wpL_region ?_
 refine sY hf hs rfl rfl rfl (Y_assign rfl rfl) ?_; clear hf; intro a hf
 refine wpO_nil ?_
 obtain ⟨r94, hl95, hm⟩ := bind_some hm
 refine wpL_block (fun a w => ∃ ms88 : List (List Int), ∃ A89, ∃ n90, ∃ c91, ∃ vs93, ms88 = r94 ∧ n90 = ms88.length ∧ Fr a 33 [(0, .slice av aw.length az), (4, .int .i64 (aw.length : Int)), (5, .slice A89 n90 c91)] ∧ St [] W w [.mat A89 n90 c91 28 2 vs93 ms88]) ?_ ?_
 ·refine wpL_loop (fun n a w => ∃ ms59 : List (List Int), ∃ x65 : Int, ∃ A60, ∃ n61, ∃ c62, ∃ vs64, spec_l03Star_L1 F aw n ms59 x65 = some r94 ∧ n61 = ms59.length ∧ Fr a 33 [(0, .slice av aw.length az), (4, .int .i64 (aw.length : Int)), (5, .slice A60 n61 c62), (6, .int .i64 x65)] ∧ St [] W w [.mat A60 n61 c62 28 2 vs64 ms59]) F ?_ ?_ ?_
  ·exact ⟨r1, 0, A3, n4, c5, vs7, hl95, hn6, (FrD.pick (FrD.pick (FrD.pick (FrD.pick hf.none hf rfl) hf rfl) hf rfl) hf rfl), hs⟩
  ·rintro a w ⟨ms59, x65, A60, n61, c62, vs64, h0_, -, -, -⟩; simp [spec_l03Star_L1] at h0_
  ·rintro n97 a w ⟨ms59, x65, A60, n61, c62, vs64, hm96, hn63, hf, hs⟩
   rw [spec_l03Star_L1] at hm96
   refine wpL_seq <| wpL_seq <| wpL_region ?_
   refine sY hf hs rfl rfl rfl (Y_move rfl rfl) ?_; clear hf; intro a hf
   refine sY hf hs rfl rfl rfl (Y_move rfl rfl) ?_; clear hf; intro a hf
   refine sY hf hs rfl rfl rfl (Y_lss rfl rfl rfl) ?_; clear hf; intro a hf
   refine wpO_nil ?_
   refine wpL_cond hf rfl (fun hb98 => ?_) (fun hb98 => ?_)
   ·have hm96 := bif_t hm96 hb98
    refine wpL_skip <| wpL_seq <| wpL_block0 <| wpL_region ?_
    refine sY hf hs rfl rfl rfl (Y_move rfl rfl) ?_; clear hf; intro a hf
    obtain ⟨r99, hc100, hm96⟩ := bind_some hm96
    refine sCall hf rfl rfl rfl rfl (cap := []) rfl rfl en150 (spec_l02Unit_ok F (aw.length : Int) _ _ hc100) ?_; clear hf
    rintro _ w ⟨A101, n102, c103, vs105, rfl, hn104, hs1⟩ a hf
    have hs : St [] W w [.mat A60 n61 c62 28 2 vs64 ms59, .mat A101 n102 c103 28 2 vs105 r99] := hs.join hs1
    clear hs1
    refine sY hf hs rfl rfl rfl (Y_move rfl rfl) ?_; clear hf; intro a hf
    refine sY hf hs rfl rfl rfl (Y_move rfl rfl) ?_; clear hf; intro a hf
    obtain ⟨r106, hc107, hm96⟩ := bind_some hm96
    refine sCall hf rfl rfl rfl rfl (cap := []) rfl rfl en86 (spec_l02Multiply_ok F aw av aw.length az rfl ms59 A60 n61 c62 hn63 _ _ hc107 (aP.at hs) (hs.rdM (i := 0) rfl)) ?_; clear hf
    rintro _ w ⟨A108, n109, c110, vs112, rfl, hn111, hs1⟩ a hf
    have hs : St [] W w [.mat A60 n61 c62 28 2 vs64 ms59, .mat A101 n102 c103 28 2 vs105 r99, .mat A108 n109 c110 28 2 vs112 r106] := hs.join hs1
    clear hs1
    obtain ⟨r113, hc114, hm96⟩ := bind_some hm96
    refine sCall hf rfl rfl rfl rfl (cap := []) rfl rfl en151 (spec_l02Add_ok F r99 A101 n102 c103 hn104 r106 A108 n109 c110 hn111 _ _ hc114 (hs.rdM (i := 1) rfl) (hs.rdM (i := 2) rfl)) ?_; clear hf
    rintro _ w ⟨A115, n116, c117, vs119, rfl, hn118, hs1⟩ a hf
    have hs : St [] W w [.mat A60 n61 c62 28 2 vs64 ms59, .mat A101 n102 c103 28 2 vs105 r99, .mat A108 n109 c110 28 2 vs112 r106, .mat A115 n116 c117 28 2 vs119 r113] := hs.join hs1
    clear hs1
    refine sY hf hs rfl rfl rfl (Y_assign rfl rfl) ?_; clear hf; intro a hf
    refine wpO_nil ?_
    refine wpL_nil (Qb_normal ?_)
    refine wpL_region ?_
    refine sY hf hs rfl rfl rfl (Y_move rfl rfl) ?_; clear hf; intro a hf
    refine sY hf hs rfl rfl rfl (Y_add rfl rfl rfl) ?_; clear hf; intro a hf
    refine sY hf hs rfl rfl rfl (Y_assign rfl rfl) ?_; clear hf; intro a hf
    refine wpO_nil ?_
    refine wpL_nil (Ql_normal ?_)
    exact ⟨r113, (IntKind.i64.wrap (x65 + 1)), A115, n116, c117, vs119, hm96, hn118, (FrD.pick (FrD.pick (FrD.pick (FrD.pick hf.none hf rfl) hf rfl) hf rfl) hf rfl), hs.sel [3] (by decide)⟩
   ·have hm96 := bif_f hm96 hb98
    refine wpL_exit (Ql_exit (Qb_exit ?_))
    exact ⟨ms59, A60, n61, c62, vs64, Option.some.inj hm96, hn63, (FrD.pick (FrD.pick (FrD.pick hf.none hf rfl) hf rfl) hf rfl), hs⟩
 ·rintro a w ⟨ms88, A89, n90, c91, vs93, hr_, hn92, hf, hs⟩
  subst hr_
  try dsimp only at hm
  refine wpL_seq <| wpL_region ?_
  refine sY hf hs rfl rfl rfl (Y_move rfl rfl) ?_; clear hf; intro a hf
  obtain ⟨r120, hc121, hm⟩ := bind_some hm
  refine sCall hf rfl rfl rfl rfl (cap := []) rfl rfl en150 (spec_l02Unit_ok F (aw.length : Int) _ _ hc121) ?_; clear hf
  rintro _ w ⟨A122, n123, c124, vs126, rfl, hn125, hs1⟩ a hf
  have hs : St [] W w [.mat A89 n90 c91 28 2 vs93 ms88, .mat A122 n123 c124 28 2 vs126 r120] := hs.join hs1
  clear hs1
  refine sY hf hs rfl rfl rfl (Y_move rfl rfl) ?_; clear hf; intro a hf
  refine sY hf hs rfl rfl rfl (Y_move rfl rfl) ?_; clear hf; intro a hf
  obtain ⟨r127, hc128, hm⟩ := bind_some hm
  refine sCall hf rfl rfl rfl rfl (cap := []) rfl rfl en86 (spec_l02Multiply_ok F aw av aw.length az rfl ms88 A89 n90 c91 hn92 _ _ hc128 (aP.at hs) (hs.rdM (i := 0) rfl)) ?_; clear hf
  rintro _ w ⟨A129, n130, c131, vs133, rfl, hn132, hs1⟩ a hf
  have hs : St [] W w [.mat A89 n90 c91 28 2 vs93 ms88, .mat A122 n123 c124 28 2 vs126 r120, .mat A129 n130 c131 28 2 vs133 r127] := hs.join hs1
  clear hs1
  obtain ⟨r134, hc135, hm⟩ := bind_some hm
  refine sCall hf rfl rfl rfl rfl (cap := []) rfl rfl en151 (spec_l02Add_ok F r120 A122 n123 c124 hn125 r127 A129 n130 c131 hn132 _ _ hc135 (hs.rdM (i := 1) rfl) (hs.rdM (i := 2) rfl)) ?_; clear hf
  rintro _ w ⟨A136, n137, c138, vs140, rfl, hn139, hs1⟩ a hf
  have hs : St [] W w [.mat A89 n90 c91 28 2 vs93 ms88, .mat A122 n123 c124 28 2 vs126 r120, .mat A129 n130 c131 28 2 vs133 r127, .mat A136 n137 c138 28 2 vs140 r134] := hs.join hs1
  clear hs1
  refine sY hf hs rfl rfl rfl (Y_assign rfl rfl) ?_; clear hf; intro a hf
  refine wpO_nil <| wpL_seq <| wpL_region ?_
  refine sY hf hs rfl rfl rfl (Y_move rfl rfl) ?_; clear hf; intro a hf
  refine sY hf hs rfl rfl rfl (Y_move rfl rfl) ?_; clear hf; intro a hf
  refine sY hf hs rfl rfl rfl (Y_move rfl rfl) ?_; clear hf; intro a hf
  obtain ⟨r141, hc142, hm⟩ := bind_some hm
  refine sCall hf rfl rfl rfl rfl (cap := []) rfl rfl en152 (spec_l02Same_ok F r134 A136 n137 c138 hn139 ms88 A89 n90 c91 hn92 _ _ hc142 (hs.rdM (i := 3) rfl) (hs.rdM (i := 0) rfl)) ?_; clear hf
  rintro _ w ⟨rfl, hs1⟩ a hf
  have hs : St [] W w [.mat A89 n90 c91 28 2 vs93 ms88, .mat A122 n123 c124 28 2 vs126 r120, .mat A129 n130 c131 28 2 vs133 r127, .mat A136 n137 c138 28 2 vs140 r134] := hs.ext hs1.below
  clear hs1
  refine sY hf hs rfl rfl rfl (Y_assign rfl rfl) ?_; clear hf; intro a hf
  refine sY hf hs rfl rfl rfl (Y_assign rfl rfl) ?_; clear hf; intro a hf
  refine wpO_nil ?_
  obtain rfl := Option.some.inj hm
  refine wpL_ret (ret_tmp2 rfl hf rfl rfl ?_)
  exact ⟨_, rfl, A89, n90, c91, vs93, rfl, hn92, hs.sel [0] (by decide)⟩

set_option maxRecDepth 100000 in
theorem spec_l08Sub_ok (F : Nat) (aw : List (List Int)) (av : Option Addr) (aO az : Nat) (aS : aO = aw.length) (aD : List Int) (aB : Option Addr) (aU aL : Nat) (bb : aU = aD.length) (r : List Int) (W : World) (hm : spec_l08Sub F aw aD = some r) (aP : RdM W av aw) (aW : Rd W aB (ints aD)) :
  Calls Try.prog 124 [.slice av aO az, .slice aB aU aL].toArray W fun e w' => ∃ v, e = .returned v ∧ ∃ A1844, ∃ n1845, ∃ c1846, v = .slice A1844 n1845 c1846 ∧ n1845 = r.length ∧ St [] W w' [.row A1844 n1845 c1846 2 1 (ints r)] := by
 subst aS
 subst bb
 unfold spec_l08Sub at hm
 refine Calls.enter (N := 64) Try.func124 rfl rfl rfl (fun a hf => ?_)
 have hs := St.start W
 obtain ⟨w, hw_⟩ : ∃ w, w = W := ⟨W, rfl⟩
 clear hw_ w
 refine wpL_seq <| wpL_region ?_
 refine sY hf hs rfl rfl rfl (Y_assign rfl rfl) ?_; clear hf; intro a hf
 refine wpO_nil <| wpL_seq <| wpL_region ?_
 refine sEmpty hf hs rfl rfl rfl rfl el28 ti2 ?_; clear hf hs; intro a w A1 hs hf
 have hs : St [] W w [.row A1 0 0 2 1 (ints ([] : List Int))] := hs
 refine sY hf hs rfl rfl rfl (Y_assign rfl rfl) ?_; clear hf; intro a hf
 refine wpO_nil <| wpL_seq <| wpL_seq <| wpL_region ?_
 refine sY hf hs rfl rfl rfl (Y_assign rfl rfl) ?_; clear hf; intro a hf
 refine wpO_nil ?_
 obtain ⟨r1385, hl1386, hm⟩ := bind_some hm
 refine wpL_block (fun a w => ∃ xs1380 : List Int, ∃ A1381, ∃ n1382, ∃ c1383, xs1380 = r1385 ∧ n1382 = xs1380.length ∧ Fr a 64 [(5, .slice A1381 n1382 c1383)] ∧ St [] W w [.row A1381 n1382 c1383 2 1 (ints xs1380)]) ?_ ?_
 ·refine wpL_loop (fun n a w => ∃ xs919 : List Int, ∃ x924 : Int, ∃ A920, ∃ n921, ∃ c922, spec_l08Sub_L4 F aw aD n xs919 x924 = some r1385 ∧ n921 = xs919.length ∧ Fr a 64 [(0, .slice av aw.length az), (1, .slice aB aD.length aL), (5, .slice A920 n921 c922), (6, .int .i64 x924)] ∧ St [] W w [.row A920 n921 c922 2 1 (ints xs919)]) F ?_ ?_ ?_
  ·exact ⟨([] : List Int), 0, A1, 0, 0, hl1386, rfl, (FrD.pick (FrD.pick (FrD.pick (FrD.pick hf.none hf rfl) hf rfl) hf rfl) hf rfl), hs⟩
  ·rintro a w ⟨xs919, x924, A920, n921, c922, h0_, -, -, -⟩; simp [spec_l08Sub_L4] at h0_
  ·rintro n1388 a w ⟨xs919, x924, A920, n921, c922, hm1387, hn923, hf, hs⟩
   rw [spec_l08Sub_L4] at hm1387
   refine wpL_seq <| wpL_seq <| wpL_region ?_
   refine sY hf hs rfl rfl rfl (Y_move rfl rfl) ?_; clear hf; intro a hf
   refine sY hf hs rfl rfl rfl (Y_move rfl rfl) ?_; clear hf; intro a hf
   obtain ⟨q1389, hi1390, hm1387⟩ := bind_some hm1387
   obtain ⟨hi1390a, hi1390b, hi1390q⟩ := idx_some hi1390
   obtain ⟨vs1391, hv1392, hr1393⟩ := id aP
   obtain ⟨A1394, c1395, hv1396, hR1397⟩ := hr1393 _ _ hi1390q
   refine sY hf hs rfl rfl rfl (Y_index rfl rfl rfl el40 ti28 (Rd.isAt hv1392 hv1396) hi1390a hi1390b) ?_; clear hf; intro a hf
   refine sY hf hs rfl rfl rfl (Y_load_rd rfl rfl (fun w hs => hv1392.at hs) (at1 hv1396) ag28) ?_; clear hf; intro a hf
   refine sY hf hs rfl rfl rfl (Y_lenH rfl rfl el28 rfl) ?_; clear hf; intro a hf
   refine sY hf hs rfl rfl rfl (Y_lss rfl rfl rfl) ?_; clear hf; intro a hf
   refine wpO_nil ?_
   refine wpL_cond hf rfl (fun hb1398 => ?_) (fun hb1398 => ?_)
   ·have hm1387 := bif_t hm1387 hb1398
    refine wpL_skip <| wpL_seq <| wpL_block0 <| wpL_seq <| wpL_region ?_
    refine sY hf hs rfl rfl rfl (Y_assign rfl rfl) ?_; clear hf; intro a hf
    refine sY hf hs rfl rfl rfl (Y_assign rfl rfl) ?_; clear hf; intro a hf
    refine wpO_nil <| wpL_seq <| wpL_seq <| wpL_region ?_
    refine sY hf hs rfl rfl rfl (Y_assign rfl rfl) ?_; clear hf; intro a hf
    refine wpO_nil ?_
    obtain ⟨r1727, hl1728, hm1387⟩ := bind_some hm1387
    refine wpL_block (fun a w => ∃ x1726 : Int, x1726 = r1727 ∧ Fr a 64 [(0, .slice av aw.length az), (1, .slice aB aD.length aL), (5, .slice A920 n921 c922), (6, .int .i64 x924), (7, .int .i64 x1726)] ∧ St [] W w [.row A920 n921 c922 2 1 (ints xs919)]) ?_ ?_
    ·refine wpL_loop (fun n a w => ∃ x1616 : Int, ∃ b1617 : Bool, ∃ x1618 : Int, spec_l08Sub_L5 F aw aD x924 n x1616 b1617 x1618 = some r1727 ∧ Fr a 64 [(0, .slice av aw.length az), (1, .slice aB aD.length aL), (5, .slice A920 n921 c922), (6, .int .i64 x924), (7, .int .i64 x1616), (8, .bool b1617), (9, .int .i64 x1618)] ∧ St [] W w [.row A920 n921 c922 2 1 (ints xs919)]) F ?_ ?_ ?_
     ·exact ⟨0, false, 0, hl1728, (FrD.pick (FrD.pick (FrD.pick (FrD.pick (FrD.pick (FrD.pick (FrD.pick hf.none hf rfl) hf rfl) hf rfl) hf rfl) hf rfl) hf rfl) hf rfl), hs⟩
     ·rintro a w ⟨x1616, b1617, x1618, h0_, -, -⟩; simp [spec_l08Sub_L5] at h0_
     ·rintro n1730 a w ⟨x1616, b1617, x1618, hm1729, hf, hs⟩
      rw [spec_l08Sub_L5] at hm1729
      refine wpL_seq <| wpL_seq <| wpL_region ?_
      refine sY hf hs rfl rfl rfl (Y_move rfl rfl) ?_; clear hf; intro a hf
      refine sY hf hs rfl rfl rfl (Y_move rfl rfl) ?_; clear hf; intro a hf
      refine sY hf hs rfl rfl rfl (Y_lenH rfl rfl el40 rfl) ?_; clear hf; intro a hf
      refine sY hf hs rfl rfl rfl (Y_lss rfl rfl rfl) ?_; clear hf; intro a hf
      refine wpO_nil ?_
      refine wpL_cond hf rfl (fun hb1731 => ?_) (fun hb1731 => ?_)
      ·have hm1729 := bif_t hm1729 hb1731
       refine wpL_skip <| wpL_seq ?_
       obtain ⟨r1785, hj1786, hm1729⟩ := bind_some hm1729
       refine wpL_block (fun a w => ∃ x1783 : Int, ∃ b1784 : Bool, (x1783, b1784) = r1785 ∧ Fr a 64 [(0, .slice av aw.length az), (1, .slice aB aD.length aL), (5, .slice A920 n921 c922), (6, .int .i64 x924), (7, .int .i64 x1783), (8, .bool b1784), (9, .int .i64 x1618)] ∧ St [] W w [.row A920 n921 c922 2 1 (ints xs919)]) ?_ ?_
       ·refine wpL_seq <| wpL_seq <| wpL_region ?_
        refine sY hf hs rfl rfl rfl (Y_move rfl rfl) ?_; clear hf; intro a hf
        refine sY hf hs rfl rfl rfl (Y_move rfl rfl) ?_; clear hf; intro a hf
        obtain ⟨q1787, hi1788, hj1786⟩ := bind_some hj1786
        obtain ⟨hi1788a, hi1788b, hi1788q⟩ := idx_some hi1788
        obtain ⟨vs1789, hv1790, hr1791⟩ := id aP
        obtain ⟨A1792, c1793, hv1794, hR1795⟩ := hr1791 _ _ hi1788q
        refine sY hf hs rfl rfl rfl (Y_index rfl rfl rfl el40 ti28 (Rd.isAt hv1790 hv1794) hi1788a hi1788b) ?_; clear hf; intro a hf
        refine sY hf hs rfl rfl rfl (Y_load_rd rfl rfl (fun w hs => hv1790.at hs) (at1 hv1794) ag28) ?_; clear hf; intro a hf
        refine sY hf hs rfl rfl rfl (Y_move rfl rfl) ?_; clear hf; intro a hf
        obtain ⟨q1796, hi1797, hj1786⟩ := bind_some hj1786
        obtain ⟨hi1797a, hi1797b, hi1797q⟩ := idx_some hi1797
        refine sY hf hs rfl rfl rfl (Y_index rfl rfl rfl el28 ti2 (Rd.isAt (hR1795.at hs) (at1 (ints_at hi1797q))) hi1797a hi1797b) ?_; clear hf; intro a hf
        refine sY hf hs rfl rfl rfl (Y_load_rd rfl rfl (fun w hs => hR1795.at hs) (at1 (ints_at hi1797q)) ag2) ?_; clear hf; intro a hf
        refine sY hf hs rfl rfl rfl (Y_eql rfl rfl rfl) ?_; clear hf; intro a hf
        refine wpO_nil ?_
        refine wpL_cond hf rfl (fun hb1798 => ?_) (fun hb1798 => ?_)
        ·have hj1786 := bif_t hj1786 hb1798
         refine wpL_exit (Qb_exit ?_)
         exact ⟨x1616, b1617, Option.some.inj hj1786, (FrD.pick (FrD.pick (FrD.pick (FrD.pick (FrD.pick (FrD.pick (FrD.pick hf.none hf rfl) hf rfl) hf rfl) hf rfl) hf rfl) hf rfl) hf rfl), hs⟩
        ·have hj1786 := bif_f hj1786 hb1798
         refine wpL_skip <| wpL_seq <| wpL_region ?_
         refine sY hf hs rfl rfl rfl (Y_assign rfl rfl) ?_; clear hf; intro a hf
         refine wpO_nil <| wpL_seq <| wpL_seq <| wpL_region ?_
         refine sY hf hs rfl rfl rfl (Y_move rfl rfl) ?_; clear hf; intro a hf
         refine sY hf hs rfl rfl rfl (Y_move rfl rfl) ?_; clear hf; intro a hf
         obtain ⟨q1799, hi1800, hj1786⟩ := bind_some hj1786
         obtain ⟨hi1800a, hi1800b, hi1800q⟩ := idx_some hi1800
         refine sY hf hs rfl rfl rfl (Y_index rfl rfl rfl el28 ti2 (Rd.isAt (aW.at hs) (at1 (ints_at hi1800q))) hi1800a hi1800b) ?_; clear hf; intro a hf
         refine sY hf hs rfl rfl rfl (Y_load_rd rfl rfl (fun w hs => aW.at hs) (at1 (ints_at hi1800q)) ag2) ?_; clear hf; intro a hf
         refine sY hf hs rfl rfl rfl (Y_neq rfl rfl rfl) ?_; clear hf; intro a hf
         refine wpO_nil ?_
         obtain ⟨r1816, hj1817, hj1786⟩ := bind_some hj1786
         refine wpL_cut (fun a w => ∃ x1815 : Int, x1815 = r1816 ∧ Fr a 64 [(0, .slice av aw.length az), (1, .slice aB aD.length aL), (5, .slice A920 n921 c922), (6, .int .i64 x924), (7, .int .i64 x1616), (8, .bool b1617), (9, .int .i64 x1618), (10, .int .i64 x1815)] ∧ St [] W w [.row A920 n921 c922 2 1 (ints xs919)]) ?_ ?_
         ·refine wpL_cond hf rfl (fun hb1818 => ?_) (fun hb1818 => ?_)
          ·have hj1817 := bif_t hj1817 hb1818
           refine wpL_draw (by kernel_rfl) (by kernel_rfl) hs ?_
           refine qY hf rfl rfl rfl (Y_move rfl rfl) ?_; clear hf; intro a hf
           refine qY hf rfl rfl rfl (Y_move rfl rfl) ?_; clear hf; intro a hf
           obtain ⟨q1819, hi1820, hj1817⟩ := bind_some hj1817
           obtain ⟨hi1820a, hi1820b, hi1820q⟩ := idx_some hi1820
           refine qY hf rfl rfl rfl (Y_index rfl rfl rfl el28 ti2 (Rd.isAt (aW.at hs) (at1 (ints_at hi1820q))) hi1820a hi1820b) ?_; clear hf; intro a hf
           refine qY hf rfl rfl rfl (Y_load_rd rfl rfl (fun w hs => aW.at hs) (at1 (ints_at hi1820q)) ag2) ?_; clear hf; intro a hf
           refine qY hf rfl rfl rfl (Y_move rfl rfl) ?_; clear hf; intro a hf
           refine qY hf rfl rfl rfl (Y_move rfl rfl) ?_; clear hf; intro a hf
           obtain ⟨q1821, hi1822, hj1817⟩ := bind_some hj1817
           obtain ⟨hi1822a, hi1822b, hi1822q⟩ := idx_some hi1822
           obtain ⟨vs1823, hv1824, hr1825⟩ := id aP
           obtain ⟨A1826, c1827, hv1828, hR1829⟩ := hr1825 _ _ hi1822q
           refine qY hf rfl rfl rfl (Y_index rfl rfl rfl el40 ti28 (Rd.isAt hv1824 hv1828) hi1822a hi1822b) ?_; clear hf; intro a hf
           refine qY hf rfl rfl rfl (Y_load_rd rfl rfl (fun w hs => hv1824.at hs) (at1 hv1828) ag28) ?_; clear hf; intro a hf
           refine qY hf rfl rfl rfl (Y_move rfl rfl) ?_; clear hf; intro a hf
           obtain ⟨q1830, hi1831, hj1817⟩ := bind_some hj1817
           obtain ⟨hi1831a, hi1831b, hi1831q⟩ := idx_some hi1831
           refine qY hf rfl rfl rfl (Y_index rfl rfl rfl el28 ti2 (Rd.isAt (hR1829.at hs) (at1 (ints_at hi1831q))) hi1831a hi1831b) ?_; clear hf; intro a hf
           refine qY hf rfl rfl rfl (Y_load_rd rfl rfl (fun w hs => hR1829.at hs) (at1 (ints_at hi1831q)) ag2) ?_; clear hf; intro a hf
           refine qY hf rfl rfl rfl (Y_sub rfl rfl rfl) ?_; clear hf; intro a hf
           refine qY hf rfl rfl rfl (Y_assign rfl rfl) ?_; clear hf; intro a hf
           refine qNil ?_; clear hs; intro w hs
           refine wpL_nil (then_normal ?_)
           exact ⟨(IntKind.i64.wrap (q1819 - q1830)), Option.some.inj hj1817, (FrD.pick (FrD.pick (FrD.pick (FrD.pick (FrD.pick (FrD.pick (FrD.pick (FrD.pick hf.none hf rfl) hf rfl) hf rfl) hf rfl) hf rfl) hf rfl) hf rfl) hf rfl), hs⟩
          ·have hj1817 := bif_f hj1817 hb1818
           refine wpL_skip ?_
           refine wpL_nil (then_normal ?_)
           exact ⟨(-1000000000000000), Option.some.inj hj1817, (FrD.pick (FrD.pick (FrD.pick (FrD.pick (FrD.pick (FrD.pick (FrD.pick (FrD.pick hf.none hf rfl) hf rfl) hf rfl) hf rfl) hf rfl) hf rfl) hf rfl) hf rfl), hs⟩
         ·rintro a w ⟨x1815, hr_, hf, hs⟩
          subst hr_
          try dsimp only at hj1786
          refine wpL_seq ?_
          obtain ⟨r1834, hj1835, hj1786⟩ := bind_some hj1786
          refine wpL_cut (fun a w => ∃ b1833 : Bool, b1833 = r1834 ∧ Fr a 64 [(0, .slice av aw.length az), (1, .slice aB aD.length aL), (5, .slice A920 n921 c922), (6, .int .i64 x924), (7, .int .i64 x1616), (8, .bool b1617), (9, .int .i64 x1618), (10, .int .i64 x1815), (57, .bool b1833)] ∧ St [] W w [.row A920 n921 c922 2 1 (ints xs919)]) ?_ ?_
          ·refine wpL_region ?_
           refine sY hf hs rfl rfl rfl (Y_move rfl rfl) ?_; clear hf; intro a hf
           refine sY hf hs rfl rfl rfl (Y_not rfl rfl) ?_; clear hf; intro a hf
           refine sY hf hs rfl rfl rfl (Y_move rfl rfl) ?_; clear hf; intro a hf
           refine bsplit (!b1617) (fun hb1836 => ?_) (fun hb1836 => ?_)
           ·have hj1835 := bif_t hj1835 hb1836
            refine sNo hf rfl rfl rfl (congrArg (fun b => some (Value.bool b)) hb1836) rfl rfl rfl ?_; clear hf; intro a hf
            refine sNo hf rfl rfl rfl (congrArg (fun b => some (Value.bool b)) hb1836) rfl rfl rfl ?_; clear hf; intro a hf
            refine sNo hf rfl rfl rfl (congrArg (fun b => some (Value.bool b)) hb1836) rfl rfl rfl ?_; clear hf; intro a hf
            refine sY hf hs rfl rfl rfl (Y_pickT rfl (congrArg (fun b => some (Value.bool b)) hb1836) rfl) ?_; clear hf; intro a hf
            refine wpO_nil ?_
            refine wpL_nil (then_normal ?_)
            exact ⟨true, Option.some.inj hj1835, (FrD.pick (FrD.pick (FrD.pick (FrD.pick (FrD.pick (FrD.pick (FrD.pick (FrD.pick (FrD.pick hf.none hf rfl) hf rfl) hf rfl) hf rfl) hf rfl) hf rfl) hf rfl) hf rfl) hf rfl), hs⟩
           ·have hj1835 := bif_f hj1835 hb1836
            refine sYg hf hs rfl rfl rfl (congrArg (fun b => some (Value.bool b)) hb1836) rfl rfl rfl (Y_move rfl rfl) ?_; clear hf; intro a hf
            refine sYg hf hs rfl rfl rfl (congrArg (fun b => some (Value.bool b)) hb1836) rfl rfl rfl (Y_move rfl rfl) ?_; clear hf; intro a hf
            refine sYg hf hs rfl rfl rfl (congrArg (fun b => some (Value.bool b)) hb1836) rfl rfl rfl (Y_lss rfl rfl rfl) ?_; clear hf; intro a hf
            refine sY hf hs rfl rfl rfl (Y_pickF rfl (congrArg (fun b => some (Value.bool b)) hb1836) rfl) ?_; clear hf; intro a hf
            refine wpO_nil ?_
            refine wpL_nil (then_normal ?_)
            exact ⟨(decide (x1815 < x1616)), Option.some.inj hj1835, (FrD.pick (FrD.pick (FrD.pick (FrD.pick (FrD.pick (FrD.pick (FrD.pick (FrD.pick (FrD.pick hf.none hf rfl) hf rfl) hf rfl) hf rfl) hf rfl) hf rfl) hf rfl) hf rfl) hf rfl), hs⟩
          ·rintro a w ⟨b1833, hr_, hf, hs⟩
           subst hr_
           try dsimp only at hj1786
           refine wpL_cond hf rfl (fun hb1837 => ?_) (fun hb1837 => ?_)
           ·have hj1786 := bif_t hj1786 hb1837
            refine wpL_seq <| wpL_region ?_
            refine sY hf hs rfl rfl rfl (Y_move rfl rfl) ?_; clear hf; intro a hf
            refine sY hf hs rfl rfl rfl (Y_assign rfl rfl) ?_; clear hf; intro a hf
            refine wpO_nil <| wpL_region ?_
            refine sY hf hs rfl rfl rfl (Y_assign rfl rfl) ?_; clear hf; intro a hf
            refine wpO_nil ?_
            refine wpL_nil (Qb_normal ?_)
            exact ⟨x1815, true, Option.some.inj hj1786, (FrD.pick (FrD.pick (FrD.pick (FrD.pick (FrD.pick (FrD.pick (FrD.pick hf.none hf rfl) hf rfl) hf rfl) hf rfl) hf rfl) hf rfl) hf rfl), hs⟩
           ·have hj1786 := bif_f hj1786 hb1837
            refine wpL_skip ?_
            refine wpL_nil (Qb_normal ?_)
            exact ⟨x1616, b1617, Option.some.inj hj1786, (FrD.pick (FrD.pick (FrD.pick (FrD.pick (FrD.pick (FrD.pick (FrD.pick hf.none hf rfl) hf rfl) hf rfl) hf rfl) hf rfl) hf rfl) hf rfl), hs⟩
       ·rintro a w ⟨x1783, b1784, hr_, hf, hs⟩
        subst hr_
        try dsimp only at hm1729
        refine wpL_region ?_
        refine sY hf hs rfl rfl rfl (Y_move rfl rfl) ?_; clear hf; intro a hf
        refine sY hf hs rfl rfl rfl (Y_add rfl rfl rfl) ?_; clear hf; intro a hf
        refine sY hf hs rfl rfl rfl (Y_assign rfl rfl) ?_; clear hf; intro a hf
        refine wpO_nil ?_
        refine wpL_nil (Ql_normal ?_)
        exact ⟨x1783, b1784, (IntKind.i64.wrap (x1618 + 1)), hm1729, (FrD.pick (FrD.pick (FrD.pick (FrD.pick (FrD.pick (FrD.pick (FrD.pick hf.none hf rfl) hf rfl) hf rfl) hf rfl) hf rfl) hf rfl) hf rfl), hs⟩
      ·have hm1729 := bif_f hm1729 hb1731
       refine wpL_exit (Ql_exit (Qb_exit ?_))
       exact ⟨x1616, Option.some.inj hm1729, (FrD.pick (FrD.pick (FrD.pick (FrD.pick (FrD.pick hf.none hf rfl) hf rfl) hf rfl) hf rfl) hf rfl), hs⟩
    ·rintro a w ⟨x1726, hr_, hf, hs⟩
     subst hr_
     try dsimp only at hm1387
     refine wpL_region ?_
     refine sY hf hs rfl rfl rfl (Y_move rfl rfl) ?_; clear hf; intro a hf
     refine sY hf hs rfl rfl rfl (Y_move rfl rfl) ?_; clear hf; intro a hf
     refine sBuildSlice (parts := [(0, .tmp 60)]) (vs := [.int .i64 x1726]) (cells := [.int .i64 x1726]) hf hs rfl rfl rfl rfl rfl el28 ti2 rfl rfl rfl rfl ?_; clear hf hs; intro a w A1838 hs hA1839 hf
     have hs : St [] W w [.row A920 n921 c922 2 1 (ints xs919), .row A1838 1 1 2 1 (ints ([x1726]))] := hs
     obtain ⟨xs1842, ha1843, hm1387⟩ := bind_some hm1387
     refine sAppendL (i := 0) (xs := xs919) (ys := [x1726]) (enc := ints) hf hs rfl rfl rfl rfl rfl rfl hn923 rfl rfl ha1843 el28 ti2 rfl rfl rfl (hs.rd (i := 1) rfl) (Nat.succ_pos _) ints_len1 ints_append ints_one ?_; clear hf hs; intro a w A1840 c1841 hs hf
     have hs : St [] W w [.row A1840 xs1842.length c1841 2 1 (ints xs1842), .row A1838 1 1 2 1 (ints ([x1726]))] := hs
     refine sY hf hs rfl rfl rfl (Y_assign rfl rfl) ?_; clear hf; intro a hf
     refine wpO_nil ?_
     refine wpL_nil (Qb_normal ?_)
     refine wpL_region ?_
     refine sY hf hs rfl rfl rfl (Y_move rfl rfl) ?_; clear hf; intro a hf
     refine sY hf hs rfl rfl rfl (Y_add rfl rfl rfl) ?_; clear hf; intro a hf
     refine sY hf hs rfl rfl rfl (Y_assign rfl rfl) ?_; clear hf; intro a hf
     refine wpO_nil ?_
     refine wpL_nil (Ql_normal ?_)
     exact ⟨xs1842, (IntKind.i64.wrap (x924 + 1)), A1840, xs1842.length, c1841, hm1387, rfl, (FrD.pick (FrD.pick (FrD.pick (FrD.pick hf.none hf rfl) hf rfl) hf rfl) hf rfl), hs.sel [0] (by decide)⟩
   ·have hm1387 := bif_f hm1387 hb1398
    refine wpL_exit (Ql_exit (Qb_exit ?_))
    exact ⟨xs919, A920, n921, c922, Option.some.inj hm1387, hn923, (FrD.pick hf.none hf rfl), hs⟩
 ·rintro a w ⟨xs1380, A1381, n1382, c1383, hr_, hn1384, hf, hs⟩
  subst hr_
  try dsimp only at hm
  refine wpL_seq <| wpL_region ?_
  refine sY hf hs rfl rfl rfl (Y_move rfl rfl) ?_; clear hf; intro a hf
  refine sY hf hs rfl rfl rfl (Y_assign rfl rfl) ?_; clear hf; intro a hf
  refine wpO_nil ?_
  obtain rfl := Option.some.inj hm
  refine wpL_ret (ret_tmp rfl hf rfl ?_)
  exact ⟨_, rfl, A1381, n1382, c1383, rfl, hn1384, hs⟩

set_option maxRecDepth 100000 in
theorem spec_LatestTimetable_ok (F : Nat) (ag : GEventGraph) (ah : Option Addr) (ax aj : Nat) (aC : ax = ag.Places.length) (aG : Int) (bU : List Int) (bQ : Option Addr) (cx bW : Nat) (cK : cx = bU.length) (r : GTimetable × Int) (W : World) (hm : spec_LatestTimetable F ag aG bU = some r) (ay : Rd W ah ((recs GPlace.cells) ag.Places)) (cz : Rd W bQ (ints bU)) :
  Calls Try.prog 52 [.agg #[.int .i64 ag.Events, .slice ah ax aj], .int .i64 aG, .slice bQ cx bW].toArray W fun e w' => ∃ v, e = .returned v ∧ ∃ A68, ∃ n69, ∃ c70, v = .tuple #[.agg #[.int .i64 r.1.Period, .slice A68 n69 c70], .int .i64 r.2] ∧ n69 = r.1.Starts.length ∧ St [] W w' [.row A68 n69 c70 2 1 (ints r.1.Starts)] := by
 subst aC
 subst cK
 unfold spec_LatestTimetable at hm
 refine Calls.enter (N := 63) Try.func52 rfl rfl rfl (fun a hf => ?_)
 have hs := St.start W
 obtain ⟨w, hw_⟩ : ∃ w, w = W := ⟨W, rfl⟩
 clear hw_ w
 refine wpL_seq <| wpL_region ?_
 refine sBox hf hs rfl rfl rfl rfl rfl (cs := [.int .i64 ag.Events, .slice ah ag.Places.length aj]) rfl ?_; clear hf hs; intro a w b1 hs hf
 have hs : St [] W w [.blk b1 55 [.int .i64 ag.Events, .slice ah ag.Places.length aj]] := hs
 refine sAlloc hf hs rfl rfl rfl rfl ti66 ?_; clear hf hs; intro a w b2 hs hf
 have hs : St [] W w [.blk b1 55 [.int .i64 ag.Events, .slice ah ag.Places.length aj], .blk b2 66 [.int .i64 0, .slice none 0 0]] := hs
 refine sY hf hs rfl rfl rfl (Y_assign rfl rfl) ?_; clear hf; intro a hf
 refine wpO_nil <| wpL_seq <| wpL_region ?_
 refine sY hf hs rfl rfl rfl (Y_load_blkS rfl rfl (i := 0) rfl ag55 ti55 rfl) ?_; clear hf; intro a hf
 refine sY hf hs rfl rfl rfl (Y_move rfl rfl) ?_; clear hf; intro a hf
 obtain ⟨r3, hc4, hm⟩ := bind_some hm
 refine sCall hf rfl rfl rfl rfl (cap := []) rfl rfl en122 (spec_l20Period_ok F ag ah ag.Places.length aj rfl aG _ _ hc4 (ay.at hs)) ?_; clear hf
 rintro _ w ⟨rfl, hs1⟩ a hf
 have hs : St [] W w [.blk b1 55 [.int .i64 ag.Events, .slice ah ag.Places.length aj], .blk b2 66 [.int .i64 0, .slice none 0 0]] := hs.ext hs1.below
 clear hs1
 refine sY hf hs rfl rfl rfl (Y_assign rfl rfl) ?_; clear hf; intro a hf
 refine wpO_nil <| wpL_seq <| wpL_seq ?_
 obtain ⟨r10, hj11, hm⟩ := bind_some hm
 refine wpL_cut (fun a w => ∃ b9 : Bool, b9 = r10 ∧ Fr a 63 [(1, .int .i64 aG), (2, .slice bQ bU.length bW), (3, .pointer (some ⟨b1, 0, none⟩)), (6, .pointer (some ⟨b2, 0, none⟩)), (8, .int .i64 r3), (29, .bool b9)] ∧ St [] W w [.blk b1 55 [.int .i64 ag.Events, .slice ah ag.Places.length aj], .blk b2 66 [.int .i64 0, .slice none 0 0]]) ?_ ?_
 ·refine wpL_region ?_
  refine sY hf hs rfl rfl rfl (Y_move rfl rfl) ?_; clear hf; intro a hf
  refine sY hf hs rfl rfl rfl (Y_eql rfl rfl rfl) ?_; clear hf; intro a hf
  refine sY hf hs rfl rfl rfl (Y_move rfl rfl) ?_; clear hf; intro a hf
  refine bsplit (r3 == 0) (fun hb12 => ?_) (fun hb12 => ?_)
  ·have hj11 := bif_t hj11 hb12
   refine sYg hf hs rfl rfl rfl (congrArg (fun b => some (Value.bool b)) hb12) rfl rfl rfl (Y_move rfl rfl) ?_; clear hf; intro a hf
   refine sYg hf hs rfl rfl rfl (congrArg (fun b => some (Value.bool b)) hb12) rfl rfl rfl (Y_lenH rfl rfl el28 rfl) ?_; clear hf; intro a hf
   refine sYg hf hs rfl rfl rfl (congrArg (fun b => some (Value.bool b)) hb12) rfl rfl rfl (Y_fieldAddr rfl rfl fo55_0) ?_; clear hf; intro a hf
   refine sYg hf hs rfl rfl rfl (congrArg (fun b => some (Value.bool b)) hb12) rfl rfl rfl (Y_load_blk rfl rfl (i := 0) rfl rfl ag2) ?_; clear hf; intro a hf
   refine sYg hf hs rfl rfl rfl (congrArg (fun b => some (Value.bool b)) hb12) rfl rfl rfl (Y_neq rfl rfl rfl) ?_; clear hf; intro a hf
   refine sYg hf hs rfl rfl rfl (congrArg (fun b => some (Value.bool b)) hb12) rfl rfl rfl (Y_move rfl rfl) ?_; clear hf; intro a hf
   refine bsplit ((bU.length : Int) != ag.Events) (fun hb13 => ?_) (fun hb13 => ?_)
   ·have hj11 := bif_t hj11 hb13
    refine sNo hf rfl rfl rfl (congrArg (fun b => some (Value.bool b)) hb13) rfl rfl rfl ?_; clear hf; intro a hf
    refine sNo hf rfl rfl rfl (congrArg (fun b => some (Value.bool b)) hb13) rfl rfl rfl ?_; clear hf; intro a hf
    refine sNo hf rfl rfl rfl (congrArg (fun b => some (Value.bool b)) hb13) rfl rfl rfl ?_; clear hf; intro a hf
    refine sYg hf hs rfl rfl rfl (congrArg (fun b => some (Value.bool b)) hb12) rfl rfl rfl (Y_pickT rfl (congrArg (fun b => some (Value.bool b)) hb13) rfl) ?_; clear hf; intro a hf
    refine sY hf hs rfl rfl rfl (Y_pickT rfl (congrArg (fun b => some (Value.bool b)) hb12) rfl) ?_; clear hf; intro a hf
    refine wpO_nil ?_
    refine wpL_nil (then_normal ?_)
    exact ⟨true, Option.some.inj hj11, (FrD.pick (FrD.pick (FrD.pick (FrD.pick (FrD.pick (FrD.pick hf.none hf rfl) hf rfl) hf rfl) hf rfl) hf rfl) hf rfl), hs⟩
   ·have hj11 := bif_f hj11 hb13
    refine sYg hf hs rfl rfl rfl (congrArg (fun b => some (Value.bool b)) hb13) rfl rfl rfl (Y_move rfl rfl) ?_; clear hf; intro a hf
    obtain ⟨r14, hc15, hj11⟩ := bind_some hj11
    refine sCallg hf rfl rfl rfl (congrArg (fun b => some (Value.bool b)) hb13) rfl rfl rfl rfl (cap := []) rfl rfl en76 (spec_l01Within_ok F bU bQ bU.length bW rfl 10 0 1000000 _ _ hc15 (cz.at hs)) ?_; clear hf
    rintro _ w ⟨rfl, hs1⟩ a hf
    have hs : St [] W w [.blk b1 55 [.int .i64 ag.Events, .slice ah ag.Places.length aj], .blk b2 66 [.int .i64 0, .slice none 0 0]] := hs.ext hs1.below
    clear hs1
    refine sYg hf hs rfl rfl rfl (congrArg (fun b => some (Value.bool b)) hb13) rfl rfl rfl (Y_not rfl rfl) ?_; clear hf; intro a hf
    refine sYg hf hs rfl rfl rfl (congrArg (fun b => some (Value.bool b)) hb12) rfl rfl rfl (Y_pickF rfl (congrArg (fun b => some (Value.bool b)) hb13) rfl) ?_; clear hf; intro a hf
    refine sY hf hs rfl rfl rfl (Y_pickT rfl (congrArg (fun b => some (Value.bool b)) hb12) rfl) ?_; clear hf; intro a hf
    refine wpO_nil ?_
    refine wpL_nil (then_normal ?_)
    exact ⟨(!r14), Option.some.inj hj11, (FrD.pick (FrD.pick (FrD.pick (FrD.pick (FrD.pick (FrD.pick hf.none hf rfl) hf rfl) hf rfl) hf rfl) hf rfl) hf rfl), hs⟩
  ·have hj11 := bif_f hj11 hb12
   refine sNo hf rfl rfl rfl (congrArg (fun b => some (Value.bool b)) hb12) rfl rfl rfl ?_; clear hf; intro a hf
   refine sNo hf rfl rfl rfl (congrArg (fun b => some (Value.bool b)) hb12) rfl rfl rfl ?_; clear hf; intro a hf
   refine sNo hf rfl rfl rfl (congrArg (fun b => some (Value.bool b)) hb12) rfl rfl rfl ?_; clear hf; intro a hf
   refine sNo hf rfl rfl rfl (congrArg (fun b => some (Value.bool b)) hb12) rfl rfl rfl ?_; clear hf; intro a hf
   refine sNo hf rfl rfl rfl (congrArg (fun b => some (Value.bool b)) hb12) rfl rfl rfl ?_; clear hf; intro a hf
   refine sNo hf rfl rfl rfl (congrArg (fun b => some (Value.bool b)) hb12) rfl rfl rfl ?_; clear hf; intro a hf
   refine sNoU hf rfl rfl rfl rfl rfl rfl rfl ?_; clear hf; intro a hf
   refine sNoU hf rfl rfl rfl rfl rfl rfl rfl ?_; clear hf; intro a hf
   refine sNoU hf rfl rfl rfl rfl rfl rfl rfl ?_; clear hf; intro a hf
   refine sNo hf rfl rfl rfl (congrArg (fun b => some (Value.bool b)) hb12) rfl rfl rfl ?_; clear hf; intro a hf
   refine sY hf hs rfl rfl rfl (Y_pickF rfl (congrArg (fun b => some (Value.bool b)) hb12) rfl) ?_; clear hf; intro a hf
   refine wpO_nil ?_
   refine wpL_nil (then_normal ?_)
   exact ⟨false, Option.some.inj hj11, (FrD.pick (FrD.pick (FrD.pick (FrD.pick (FrD.pick (FrD.pick hf.none hf rfl) hf rfl) hf rfl) hf rfl) hf rfl) hf rfl), hs⟩
 ·rintro a w ⟨b9, hr_, hf, hs⟩
  subst hr_
  try dsimp only at hm
  obtain ⟨r18, hj19, hm⟩ := bind_some hm
  refine wpL_cut (fun a w => ∃ x17 : Int, x17 = r18 ∧ Fr a 63 [(1, .int .i64 aG), (2, .slice bQ bU.length bW), (3, .pointer (some ⟨b1, 0, none⟩)), (6, .pointer (some ⟨b2, 0, none⟩)), (8, .int .i64 x17)] ∧ St [] W w [.blk b1 55 [.int .i64 ag.Events, .slice ah ag.Places.length aj], .blk b2 66 [.int .i64 0, .slice none 0 0]]) ?_ ?_
  ·refine wpL_cond hf rfl (fun hb20 => ?_) (fun hb20 => ?_)
   ·have hj19 := bif_t hj19 hb20
    refine wpL_region ?_
    refine sY hf hs rfl rfl rfl (Y_assign rfl rfl) ?_; clear hf; intro a hf
    refine wpO_nil ?_
    refine wpL_nil (then_normal ?_)
    exact ⟨2, Option.some.inj hj19, (FrD.pick (FrD.pick (FrD.pick (FrD.pick (FrD.pick hf.none hf rfl) hf rfl) hf rfl) hf rfl) hf rfl), hs⟩
   ·have hj19 := bif_f hj19 hb20
    refine wpL_skip ?_
    refine wpL_nil (then_normal ?_)
    exact ⟨r3, Option.some.inj hj19, (FrD.pick (FrD.pick (FrD.pick (FrD.pick (FrD.pick hf.none hf rfl) hf rfl) hf rfl) hf rfl) hf rfl), hs⟩
  ·rintro a w ⟨x17, hr_, hf, hs⟩
   subst hr_
   try dsimp only at hm
   refine wpL_seq <| wpL_seq <| wpL_region ?_
   refine sY hf hs rfl rfl rfl (Y_move rfl rfl) ?_; clear hf; intro a hf
   refine sY hf hs rfl rfl rfl (Y_neq rfl rfl rfl) ?_; clear hf; intro a hf
   refine wpO_nil ?_
   refine wpL_cond hf rfl (fun hb21 => ?_) (fun hb21 => ?_)
   ·have hm := bif_t hm hb21
    refine wpL_seq <| wpL_region ?_
    refine sY hf hs rfl rfl rfl (Y_build (parts := []) (vs := []) rfl rfl (run_build (parts := []) (cells := [.int .i64 0, .slice none 0 0]) (places := #[(0, 1), (1, 1)]) ti66 Try.underlying66 (fun w => by simp [go_sem]) rfl)) ?_; clear hf; intro a hf
    refine sY hf hs rfl rfl rfl (Y_move rfl rfl) ?_; clear hf; intro a hf
    refine sStore (i := 1) (us := [.int .i64 0, .slice none 0 0]) hf hs rfl rfl rfl rfl rfl rfl ti66 rfl rfl rfl (Nat.le_of_ble_eq_true rfl) rfl ?_; clear hs; intro w hs
    have hs : St [] W w [.blk b1 55 [.int .i64 ag.Events, .slice ah ag.Places.length aj], .blk b2 66 [.int .i64 0, .slice none 0 0]] := hs
    refine sY hf hs rfl rfl rfl (Y_assign rfl rfl) ?_; clear hf; intro a hf
    refine wpO_nil ?_
    have hs : St [] W _ [.blk b1 55 [.int .i64 ag.Events, .slice ah ag.Places.length aj], .blk b2 66 [.int .i64 0, .slice none 0 0], .row none 0 0 2 1 (ints ([] : List Int))] := hs.addNil 2 1
    obtain rfl := Option.some.inj hm
    refine wpL_ret (ret_cell_tmp rfl hf rfl rfl hs (i := 1) rfl ag66 ti66 rfl ?_)
    exact ⟨_, rfl, none, 0, 0, rfl, rfl, hs.sel [2] (by decide)⟩
   ·have hm := bif_f hm hb21
    refine wpL_skip <| wpL_seq <| wpL_region ?_
    refine sY hf hs rfl rfl rfl (Y_load_blkS rfl rfl (i := 0) rfl ag55 ti55 rfl) ?_; clear hf; intro a hf
    refine sY hf hs rfl rfl rfl (Y_move rfl rfl) ?_; clear hf; intro a hf
    refine sY hf hs rfl rfl rfl (Y_build (parts := [(0, .tmp 36), (1, .const (.int .i64 1))]) (vs := [.int .i64 aG, .int .i64 1]) rfl rfl (run_build (parts := [(0, .int .i64 aG), (1, .int .i64 1)]) (cells := [.int .i64 aG, .int .i64 1]) (places := #[(0, 1), (1, 1)]) ti129 Try.underlying129 (fun w => by simp [go_sem]) rfl)) ?_; clear hf; intro a hf
    obtain ⟨r23, hc24, hm⟩ := bind_some hm
    refine sCall hf rfl rfl rfl rfl (cap := []) rfl rfl en123 (spec_l15Weights_ok F ag ah ag.Places.length aj rfl (GRatio.mk aG 1) _ _ hc24 (ay.at hs)) ?_; clear hf
    rintro _ w ⟨A25, n26, c27, vs29, rfl, hn28, hs1⟩ a hf
    have hs : St [] W w [.blk b1 55 [.int .i64 ag.Events, .slice ah ag.Places.length aj], .blk b2 66 [.int .i64 0, .slice none 0 0], .mat A25 n26 c27 28 2 vs29 r23] := hs.join hs1
    clear hs1
    obtain ⟨r30, hc31, hm⟩ := bind_some hm
    refine sCall hf rfl rfl rfl rfl (cap := []) rfl rfl en83 (spec_l03Star_ok F r23 A25 n26 c27 hn28 _ _ hc31 (hs.rdM (i := 2) rfl)) ?_; clear hf
    rintro _ w ⟨A32, n33, c34, vs36, rfl, hn35, hs1⟩ a hf
    have hs : St [] W w [.blk b1 55 [.int .i64 ag.Events, .slice ah ag.Places.length aj], .blk b2 66 [.int .i64 0, .slice none 0 0], .mat A25 n26 c27 28 2 vs29 r23, .mat A32 n33 c34 28 2 vs36 r30.1] := hs.join hs1
    clear hs1
    refine sY hf hs rfl rfl rfl (Y_move rfl rfl) ?_; clear hf; intro a hf
    refine sY hf hs rfl rfl rfl (Y_extract rfl rfl rfl) ?_; clear hf; intro a hf
    refine sY hf hs rfl rfl rfl (Y_extract rfl rfl rfl) ?_; clear hf; intro a hf
    refine sY hf hs rfl rfl rfl (Y_assign rfl rfl) ?_; clear hf; intro a hf
    refine sY hf hs rfl rfl rfl (Y_assign rfl rfl) ?_; clear hf; intro a hf
    refine wpO_nil <| wpL_seq <| wpL_seq <| wpL_region ?_
    refine sY hf hs rfl rfl rfl (Y_move rfl rfl) ?_; clear hf; intro a hf
    refine sY hf hs rfl rfl rfl (Y_not rfl rfl) ?_; clear hf; intro a hf
    refine wpO_nil ?_
    refine wpL_cond hf rfl (fun hb37 => ?_) (fun hb37 => ?_)
    ·have hm := bif_t hm hb37
     refine wpL_seq <| wpL_region ?_
     refine sY hf hs rfl rfl rfl (Y_build (parts := []) (vs := []) rfl rfl (run_build (parts := []) (cells := [.int .i64 0, .slice none 0 0]) (places := #[(0, 1), (1, 1)]) ti66 Try.underlying66 (fun w => by simp [go_sem]) rfl)) ?_; clear hf; intro a hf
     refine sStore (i := 1) (us := [.int .i64 0, .slice none 0 0]) hf hs rfl rfl rfl rfl rfl rfl ti66 rfl rfl rfl (Nat.le_of_ble_eq_true rfl) rfl ?_; clear hs; intro w hs
     have hs : St [] W w [.blk b1 55 [.int .i64 ag.Events, .slice ah ag.Places.length aj], .blk b2 66 [.int .i64 0, .slice none 0 0], .mat A25 n26 c27 28 2 vs29 r23, .mat A32 n33 c34 28 2 vs36 r30.1] := hs
     refine sY hf hs rfl rfl rfl (Y_assign rfl rfl) ?_; clear hf; intro a hf
     refine wpO_nil ?_
     have hs : St [] W _ [.blk b1 55 [.int .i64 ag.Events, .slice ah ag.Places.length aj], .blk b2 66 [.int .i64 0, .slice none 0 0], .mat A25 n26 c27 28 2 vs29 r23, .mat A32 n33 c34 28 2 vs36 r30.1, .row none 0 0 2 1 (ints ([] : List Int))] := hs.addNil 2 1
     obtain rfl := Option.some.inj hm
     refine wpL_ret (ret_cell_tmp rfl hf rfl rfl hs (i := 1) rfl ag66 ti66 rfl ?_)
     exact ⟨_, rfl, none, 0, 0, rfl, rfl, hs.sel [4] (by decide)⟩
    ·have hm := bif_f hm hb37
     refine wpL_skip <| wpL_seq <| wpL_region ?_
     refine sY hf hs rfl rfl rfl (Y_move rfl rfl) ?_; clear hf; intro a hf
     refine sY hf hs rfl rfl rfl (Y_move rfl rfl) ?_; clear hf; intro a hf
     obtain ⟨r39, hc40, hm⟩ := bind_some hm
     refine sCall hf rfl rfl rfl rfl (cap := []) rfl rfl en124 (spec_l08Sub_ok F r30.1 A32 n33 c34 hn35 bU bQ bU.length bW rfl _ _ hc40 (hs.rdM (i := 3) rfl) (cz.at hs)) ?_; clear hf
     rintro _ w ⟨A41, n42, c43, rfl, hn44, hs1⟩ a hf
     have hs : St [] W w [.blk b1 55 [.int .i64 ag.Events, .slice ah ag.Places.length aj], .blk b2 66 [.int .i64 0, .slice none 0 0], .mat A25 n26 c27 28 2 vs29 r23, .mat A32 n33 c34 28 2 vs36 r30.1, .row A41 n42 c43 2 1 (ints r39)] := hs.join hs1
     clear hs1
     refine sY hf hs rfl rfl rfl (Y_assign rfl rfl) ?_; clear hf; intro a hf
     refine wpO_nil <| wpL_seq <| wpL_seq <| wpL_region ?_
     refine sY hf hs rfl rfl rfl (Y_assign rfl rfl) ?_; clear hf; intro a hf
     refine wpO_nil ?_
     obtain ⟨r59, hl60, hm⟩ := bind_some hm
     refine wpL_block (fun a w => Sum.inr () = r59 ∧ Fr a 63 [(1, .int .i64 aG), (6, .pointer (some ⟨b2, 0, none⟩)), (11, .slice A41 n42 c43)] ∧ St [] W w [.blk b2 66 [.int .i64 0, .slice none 0 0], .row A41 n42 c43 2 1 (ints r39)]) ?_ ?_
     ·refine wpL_loop (fun n a w => ∃ x54 : Int, spec_LatestTimetable_L1 F r39 n x54 = some r59 ∧ Fr a 63 [(1, .int .i64 aG), (6, .pointer (some ⟨b2, 0, none⟩)), (11, .slice A41 n42 c43), (12, .int .i64 x54)] ∧ St [] W w [.blk b2 66 [.int .i64 0, .slice none 0 0], .row A41 n42 c43 2 1 (ints r39)]) F ?_ ?_ ?_
      ·exact ⟨0, hl60, (FrD.pick (FrD.pick (FrD.pick (FrD.pick hf.none hf rfl) hf rfl) hf rfl) hf rfl), hs.sel [1, 4] (by decide)⟩
      ·rintro a w ⟨x54, h0_, -, -⟩; simp [spec_LatestTimetable_L1] at h0_
      ·rintro n62 a w ⟨x54, hm61, hf, hs⟩
       rw [spec_LatestTimetable_L1] at hm61
       refine wpL_seq <| wpL_seq <| wpL_region ?_
       refine sY hf hs rfl rfl rfl (Y_move rfl rfl) ?_; clear hf; intro a hf
       refine sY hf hs rfl rfl rfl (Y_move rfl rfl) ?_; clear hf; intro a hf
       refine sY hf hs rfl rfl rfl (Y_lenH rfl rfl el28 hn44) ?_; clear hf; intro a hf
       refine sY hf hs rfl rfl rfl (Y_lss rfl rfl rfl) ?_; clear hf; intro a hf
       refine wpO_nil ?_
       refine wpL_cond hf rfl (fun hb63 => ?_) (fun hb63 => ?_)
       ·have hm61 := bif_t hm61 hb63
        refine wpL_skip <| wpL_seq <| wpL_block0 <| wpL_seq <| wpL_region ?_
        refine sY hf hs rfl rfl rfl (Y_move rfl rfl) ?_; clear hf; intro a hf
        refine sY hf hs rfl rfl rfl (Y_move rfl rfl) ?_; clear hf; intro a hf
        obtain ⟨q64, hi65, hm61⟩ := bind_some hm61
        obtain ⟨hi65a, hi65b, hi65q⟩ := idx_some hi65
        refine sY hf hs rfl rfl rfl (Y_index rfl rfl rfl el28 ti2 (Rd.isAt (hs.rd (i := 1) rfl) (at1 (ints_at hi65q))) hi65a (ltn hn44 hi65b)) ?_; clear hf; intro a hf
        refine sY hf hs rfl rfl rfl (Y_load_rd rfl rfl (fun w hs => hs.rd (i := 1) rfl) (at1 (ints_at hi65q)) ag2) ?_; clear hf; intro a hf
        refine sY hf hs rfl rfl rfl (Y_lss rfl rfl rfl) ?_; clear hf; intro a hf
        refine wpO_nil ?_
        refine wpL_cond hf rfl (fun hb66 => ?_) (fun hb66 => ?_)
        ·have hm61 := bif_t hm61 hb66
         refine wpL_seq <| wpL_region ?_
         refine sY hf hs rfl rfl rfl (Y_build (parts := []) (vs := []) rfl rfl (run_build (parts := []) (cells := [.int .i64 0, .slice none 0 0]) (places := #[(0, 1), (1, 1)]) ti66 Try.underlying66 (fun w => by simp [go_sem]) rfl)) ?_; clear hf; intro a hf
         refine sStore (i := 0) (us := [.int .i64 0, .slice none 0 0]) hf hs rfl rfl rfl rfl rfl rfl ti66 rfl rfl rfl (Nat.le_of_ble_eq_true rfl) rfl ?_; clear hs; intro w hs
         have hs : St [] W w [.blk b2 66 [.int .i64 0, .slice none 0 0], .row A41 n42 c43 2 1 (ints r39)] := hs
         refine sY hf hs rfl rfl rfl (Y_assign rfl rfl) ?_; clear hf; intro a hf
         refine wpO_nil ?_
         have hs : St [] W _ [.blk b2 66 [.int .i64 0, .slice none 0 0], .row A41 n42 c43 2 1 (ints r39), .row none 0 0 2 1 (ints ([] : List Int))] := hs.addNil 2 1
         obtain rfl := Option.some.inj hm61
         try dsimp only at hm
         obtain rfl := Option.some.inj hm
         refine wpL_ret (Qb_ret (Ql_ret (Qb_ret (ret_cell_tmp rfl hf rfl rfl hs (i := 0) rfl ag66 ti66 rfl ?_))))
         exact ⟨_, rfl, none, 0, 0, rfl, rfl, hs.sel [2] (by decide)⟩
        ·have hm61 := bif_f hm61 hb66
         refine wpL_skip ?_
         refine wpL_nil (Qb_normal ?_)
         refine wpL_region ?_
         refine sY hf hs rfl rfl rfl (Y_move rfl rfl) ?_; clear hf; intro a hf
         refine sY hf hs rfl rfl rfl (Y_add rfl rfl rfl) ?_; clear hf; intro a hf
         refine sY hf hs rfl rfl rfl (Y_assign rfl rfl) ?_; clear hf; intro a hf
         refine wpO_nil ?_
         refine wpL_nil (Ql_normal ?_)
         exact ⟨(IntKind.i64.wrap (x54 + 1)), hm61, (FrD.pick (FrD.pick (FrD.pick (FrD.pick hf.none hf rfl) hf rfl) hf rfl) hf rfl), hs⟩
       ·have hm61 := bif_f hm61 hb63
        refine wpL_exit (Ql_exit (Qb_exit ?_))
        exact ⟨Option.some.inj hm61, (FrD.pick (FrD.pick (FrD.pick hf.none hf rfl) hf rfl) hf rfl), hs⟩
     ·rintro a w ⟨hr_, hf, hs⟩
      subst hr_
      try dsimp only at hm
      refine wpL_seq <| wpL_region ?_
      refine sY hf hs rfl rfl rfl (Y_move rfl rfl) ?_; clear hf; intro a hf
      refine sY hf hs rfl rfl rfl (Y_move rfl rfl) ?_; clear hf; intro a hf
      refine sY hf hs rfl rfl rfl (Y_build (parts := [(0, .tmp 60), (1, .tmp 61)]) (vs := [.int .i64 aG, .slice A41 n42 c43]) rfl rfl (run_build (parts := [(0, .int .i64 aG), (1, .slice A41 n42 c43)]) (cells := [.int .i64 aG, .slice A41 n42 c43]) (places := #[(0, 1), (1, 1)]) ti66 Try.underlying66 (fun w => by simp [go_sem]) rfl)) ?_; clear hf; intro a hf
      refine sStore (i := 0) (us := [.int .i64 aG, .slice A41 n42 c43]) hf hs rfl rfl rfl rfl rfl rfl ti66 rfl rfl rfl (Nat.le_of_ble_eq_true rfl) rfl ?_; clear hs; intro w hs
      have hs : St [] W w [.blk b2 66 [.int .i64 aG, .slice A41 n42 c43], .row A41 n42 c43 2 1 (ints r39)] := hs
      refine sY hf hs rfl rfl rfl (Y_assign rfl rfl) ?_; clear hf; intro a hf
      refine wpO_nil ?_
      obtain rfl := Option.some.inj hm
      refine wpL_ret (ret_cell_tmp rfl hf rfl rfl hs (i := 0) rfl ag66 ti66 rfl ?_)
      exact ⟨_, rfl, A41, n42, c43, rfl, hn44, hs.sel [1] (by decide)⟩

set_option maxRecDepth 100000 in
theorem laws_likeInts_ok (F : Nat) (aw : List Int) (av : Option Addr) (aO az : Nat) (aS : aO = aw.length) (aD : List Int) (aB : Option Addr) (aU aL : Nat) (bb : aU = aD.length) (r : Bool) (W : World) (hm : laws_likeInts F aw aD = some r) (aP : Rd W av (ints aw)) (aW : Rd W aB (ints aD)) :
  Calls Try.prog 21 [.slice av aO az, .slice aB aU aL].toArray W fun e w' => ∃ v, e = .returned v ∧ v = .bool r ∧ St [] W w' [] := by
 subst aS
 subst bb
 unfold laws_likeInts at hm
 refine Calls.enter (N := 26) Try.func21 rfl rfl rfl (fun a hf => ?_)
 have hs := St.start W
 obtain ⟨w, hw_⟩ : ∃ w, w = W := ⟨W, rfl⟩
 clear hw_ w
 refine wpL_seq <| wpL_region ?_
 refine sY hf hs rfl rfl rfl (Y_assign rfl rfl) ?_; clear hf; intro a hf
 refine wpO_nil <| wpL_seq <| wpL_seq <| wpL_region ?_
 refine sY hf hs rfl rfl rfl (Y_move rfl rfl) ?_; clear hf; intro a hf
 refine sY hf hs rfl rfl rfl (Y_lenH rfl rfl el28 rfl) ?_; clear hf; intro a hf
 refine sY hf hs rfl rfl rfl (Y_move rfl rfl) ?_; clear hf; intro a hf
 refine sY hf hs rfl rfl rfl (Y_lenH rfl rfl el28 rfl) ?_; clear hf; intro a hf
 refine sY hf hs rfl rfl rfl (Y_neq rfl rfl rfl) ?_; clear hf; intro a hf
 refine wpO_nil ?_
 refine wpL_cond hf rfl (fun hb1 => ?_) (fun hb1 => ?_)
 ·have hm := bif_t hm hb1
  refine wpL_seq <| wpL_region ?_
  refine sY hf hs rfl rfl rfl (Y_assign rfl rfl) ?_; clear hf; intro a hf
  refine wpO_nil ?_
  obtain rfl := Option.some.inj hm
  refine wpL_ret (ret_tmp rfl hf rfl ?_)
  exact ⟨_, rfl, rfl, hs⟩
 ·have hm := bif_f hm hb1
  refine wpL_skip <| wpL_seq <| wpL_seq <| wpL_region ?_
  refine sY hf hs rfl rfl rfl (Y_assign rfl rfl) ?_; clear hf; intro a hf
  refine wpO_nil ?_
  obtain ⟨r22, hl23, hm⟩ := bind_some hm
  refine wpL_block (fun a w => Sum.inr () = r22 ∧ Fr a 26 [] ∧ St [] W w []) ?_ ?_
  ·refine wpL_loop (fun n a w => ∃ x15 : Int, laws_likeInts_L1 F aw aD n x15 = some r22 ∧ Fr a 26 [(0, .slice av aw.length az), (1, .slice aB aD.length aL), (5, .int .i64 x15)] ∧ St [] W w []) F ?_ ?_ ?_
   ·exact ⟨0, hl23, (FrD.pick (FrD.pick (FrD.pick hf.none hf rfl) hf rfl) hf rfl), hs⟩
   ·rintro a w ⟨x15, h0_, -, -⟩; simp [laws_likeInts_L1] at h0_
   ·rintro n25 a w ⟨x15, hm24, hf, hs⟩
    rw [laws_likeInts_L1] at hm24
    refine wpL_seq <| wpL_seq <| wpL_region ?_
    refine sY hf hs rfl rfl rfl (Y_move rfl rfl) ?_; clear hf; intro a hf
    refine sY hf hs rfl rfl rfl (Y_move rfl rfl) ?_; clear hf; intro a hf
    refine sY hf hs rfl rfl rfl (Y_lenH rfl rfl el28 rfl) ?_; clear hf; intro a hf
    refine sY hf hs rfl rfl rfl (Y_lss rfl rfl rfl) ?_; clear hf; intro a hf
    refine wpO_nil ?_
    refine wpL_cond hf rfl (fun hb26 => ?_) (fun hb26 => ?_)
    ·have hm24 := bif_t hm24 hb26
     refine wpL_skip <| wpL_seq <| wpL_block0 <| wpL_seq ?_
     refine wpL_draw (by kernel_rfl) (by kernel_rfl) hs ?_
     refine qY hf rfl rfl rfl (Y_move rfl rfl) ?_; clear hf; intro a hf
     refine qY hf rfl rfl rfl (Y_move rfl rfl) ?_; clear hf; intro a hf
     obtain ⟨q27, hi28, hm24⟩ := bind_some hm24
     obtain ⟨hi28a, hi28b, hi28q⟩ := idx_some hi28
     refine qY hf rfl rfl rfl (Y_index rfl rfl rfl el28 ti2 (Rd.isAt (aP.at hs) (at1 (ints_at hi28q))) hi28a hi28b) ?_; clear hf; intro a hf
     refine qY hf rfl rfl rfl (Y_load_rd rfl rfl (fun w hs => aP.at hs) (at1 (ints_at hi28q)) ag2) ?_; clear hf; intro a hf
     refine qY hf rfl rfl rfl (Y_move rfl rfl) ?_; clear hf; intro a hf
     refine qY hf rfl rfl rfl (Y_move rfl rfl) ?_; clear hf; intro a hf
     obtain ⟨q29, hi30, hm24⟩ := bind_some hm24
     obtain ⟨hi30a, hi30b, hi30q⟩ := idx_some hi30
     refine qY hf rfl rfl rfl (Y_index rfl rfl rfl el28 ti2 (Rd.isAt (aW.at hs) (at1 (ints_at hi30q))) hi30a hi30b) ?_; clear hf; intro a hf
     refine qY hf rfl rfl rfl (Y_load_rd rfl rfl (fun w hs => aW.at hs) (at1 (ints_at hi30q)) ag2) ?_; clear hf; intro a hf
     refine qY hf rfl rfl rfl (Y_neq rfl rfl rfl) ?_; clear hf; intro a hf
     refine qNil ?_; clear hs; intro w hs
     refine wpL_cond hf rfl (fun hb31 => ?_) (fun hb31 => ?_)
     ·have hm24 := bif_t hm24 hb31
      refine wpL_seq <| wpL_region ?_
      refine sY hf hs rfl rfl rfl (Y_assign rfl rfl) ?_; clear hf; intro a hf
      refine wpO_nil ?_
      obtain rfl := Option.some.inj hm24
      try dsimp only at hm
      obtain rfl := Option.some.inj hm
      refine wpL_ret (Qb_ret (Ql_ret (Qb_ret (ret_tmp rfl hf rfl ?_))))
      exact ⟨_, rfl, rfl, hs⟩
     ·have hm24 := bif_f hm24 hb31
      refine wpL_skip ?_
      refine wpL_nil (Qb_normal ?_)
      refine wpL_region ?_
      refine sY hf hs rfl rfl rfl (Y_move rfl rfl) ?_; clear hf; intro a hf
      refine sY hf hs rfl rfl rfl (Y_add rfl rfl rfl) ?_; clear hf; intro a hf
      refine sY hf hs rfl rfl rfl (Y_assign rfl rfl) ?_; clear hf; intro a hf
      refine wpO_nil ?_
      refine wpL_nil (Ql_normal ?_)
      exact ⟨(IntKind.i64.wrap (x15 + 1)), hm24, (FrD.pick (FrD.pick (FrD.pick hf.none hf rfl) hf rfl) hf rfl), hs⟩
    ·have hm24 := bif_f hm24 hb26
     refine wpL_exit (Ql_exit (Qb_exit ?_))
     exact ⟨Option.some.inj hm24, hf.none, hs⟩
  ·rintro a w ⟨hr_, hf, hs⟩
   subst hr_
   try dsimp only at hm
   refine wpL_seq <| wpL_region ?_
   refine sY hf hs rfl rfl rfl (Y_assign rfl rfl) ?_; clear hf; intro a hf
   refine wpO_nil ?_
   obtain rfl := Option.some.inj hm
   refine wpL_ret (ret_tmp rfl hf rfl ?_)
   exact ⟨_, rfl, rfl, hs⟩

set_option maxRecDepth 100000 in
theorem laws_likeTimetables9_ok (F : Nat) (aw : GTimetable) (av : Option Addr) (aO az : Nat) (aS : aO = aw.Starts.length) (aD : GTimetable) (aB : Option Addr) (aU aL : Nat) (bb : aU = aD.Starts.length) (r : Bool) (W : World) (hm : laws_likeTimetables9 F aw aD = some r) (aP : Rd W av (ints aw.Starts)) (aW : Rd W aB (ints aD.Starts)) :
  Calls Try.prog 53 [.agg #[.int .i64 aw.Period, .slice av aO az], .agg #[.int .i64 aD.Period, .slice aB aU aL]].toArray W fun e w' => ∃ v, e = .returned v ∧ v = .bool r ∧ St [] W w' [] := by
 subst aS
 subst bb
 unfold laws_likeTimetables9 at hm
 refine Calls.enter (N := 17) Try.func53 rfl rfl rfl (fun a hf => ?_)
 have hs := St.start W
 obtain ⟨w, hw_⟩ : ∃ w, w = W := ⟨W, rfl⟩
 clear hw_ w
 refine wpL_seq <| wpL_region ?_
 refine sBox hf hs rfl rfl rfl rfl rfl (cs := [.int .i64 aw.Period, .slice av aw.Starts.length az]) rfl ?_; clear hf hs; intro a w b1 hs hf
 have hs : St [] W w [.blk b1 66 [.int .i64 aw.Period, .slice av aw.Starts.length az]] := hs
 refine sBox hf hs rfl rfl rfl rfl rfl (cs := [.int .i64 aD.Period, .slice aB aD.Starts.length aL]) rfl ?_; clear hf hs; intro a w b2 hs hf
 have hs : St [] W w [.blk b1 66 [.int .i64 aw.Period, .slice av aw.Starts.length az], .blk b2 66 [.int .i64 aD.Period, .slice aB aD.Starts.length aL]] := hs
 refine sY hf hs rfl rfl rfl (Y_assign rfl rfl) ?_; clear hf; intro a hf
 refine wpO_nil <| wpL_seq ?_
 obtain ⟨r7, hj8, hm⟩ := bind_some hm
 refine wpL_cut (fun a w => ∃ b6 : Bool, b6 = r7 ∧ Fr a 17 [(4, .bool b6)] ∧ St [] W w []) ?_ ?_
 ·refine wpL_region ?_
  refine sY hf hs rfl rfl rfl (Y_fieldAddr rfl rfl fo66_0) ?_; clear hf; intro a hf
  refine sY hf hs rfl rfl rfl (Y_load_blk rfl rfl (i := 0) rfl rfl ag2) ?_; clear hf; intro a hf
  refine sY hf hs rfl rfl rfl (Y_fieldAddr rfl rfl fo66_0) ?_; clear hf; intro a hf
  refine sY hf hs rfl rfl rfl (Y_load_blk rfl rfl (i := 1) rfl rfl ag2) ?_; clear hf; intro a hf
  refine sY hf hs rfl rfl rfl (Y_eql rfl rfl rfl) ?_; clear hf; intro a hf
  refine sY hf hs rfl rfl rfl (Y_move rfl rfl) ?_; clear hf; intro a hf
  refine bsplit (aw.Period == aD.Period) (fun hb9 => ?_) (fun hb9 => ?_)
  ·have hj8 := bif_t hj8 hb9
   refine sYg hf hs rfl rfl rfl (congrArg (fun b => some (Value.bool b)) hb9) rfl rfl rfl (Y_fieldAddr rfl rfl fo66_1) ?_; clear hf; intro a hf
   refine sYg hf hs rfl rfl rfl (congrArg (fun b => some (Value.bool b)) hb9) rfl rfl rfl (Y_load_blk rfl rfl (i := 0) rfl rfl ag28) ?_; clear hf; intro a hf
   refine sYg hf hs rfl rfl rfl (congrArg (fun b => some (Value.bool b)) hb9) rfl rfl rfl (Y_fieldAddr rfl rfl fo66_1) ?_; clear hf; intro a hf
   refine sYg hf hs rfl rfl rfl (congrArg (fun b => some (Value.bool b)) hb9) rfl rfl rfl (Y_load_blk rfl rfl (i := 1) rfl rfl ag28) ?_; clear hf; intro a hf
   obtain ⟨r10, hc11, hj8⟩ := bind_some hj8
   refine sCallg hf rfl rfl rfl (congrArg (fun b => some (Value.bool b)) hb9) rfl rfl rfl rfl (cap := []) rfl rfl en21 (laws_likeInts_ok F aw.Starts av aw.Starts.length az rfl aD.Starts aB aD.Starts.length aL rfl _ _ hc11 (aP.at hs) (aW.at hs)) ?_; clear hf
   rintro _ w ⟨rfl, hs1⟩ a hf
   have hs : St [] W w [.blk b1 66 [.int .i64 aw.Period, .slice av aw.Starts.length az], .blk b2 66 [.int .i64 aD.Period, .slice aB aD.Starts.length aL]] := hs.ext hs1.below
   clear hs1
   refine sY hf hs rfl rfl rfl (Y_pickT rfl (congrArg (fun b => some (Value.bool b)) hb9) rfl) ?_; clear hf; intro a hf
   refine sY hf hs rfl rfl rfl (Y_assign rfl rfl) ?_; clear hf; intro a hf
   refine wpO_nil ?_
   refine wpL_nil (then_normal ?_)
   exact ⟨r10, Option.some.inj hj8, (FrD.pick hf.none hf rfl), hs.sel [] (by decide)⟩
  ·have hj8 := bif_f hj8 hb9
   refine sNo hf rfl rfl rfl (congrArg (fun b => some (Value.bool b)) hb9) rfl rfl rfl ?_; clear hf; intro a hf
   refine sNo hf rfl rfl rfl (congrArg (fun b => some (Value.bool b)) hb9) rfl rfl rfl ?_; clear hf; intro a hf
   refine sNo hf rfl rfl rfl (congrArg (fun b => some (Value.bool b)) hb9) rfl rfl rfl ?_; clear hf; intro a hf
   refine sNo hf rfl rfl rfl (congrArg (fun b => some (Value.bool b)) hb9) rfl rfl rfl ?_; clear hf; intro a hf
   refine sNo hf rfl rfl rfl (congrArg (fun b => some (Value.bool b)) hb9) rfl rfl rfl ?_; clear hf; intro a hf
   refine sY hf hs rfl rfl rfl (Y_pickF rfl (congrArg (fun b => some (Value.bool b)) hb9) rfl) ?_; clear hf; intro a hf
   refine sY hf hs rfl rfl rfl (Y_assign rfl rfl) ?_; clear hf; intro a hf
   refine wpO_nil ?_
   refine wpL_nil (then_normal ?_)
   exact ⟨false, Option.some.inj hj8, (FrD.pick hf.none hf rfl), hs.sel [] (by decide)⟩
 ·rintro a w ⟨b6, hr_, hf, hs⟩
  subst hr_
  try dsimp only at hm
  obtain rfl := Option.some.inj hm
  refine wpL_ret (ret_tmp rfl hf rfl ?_)
  exact ⟨_, rfl, rfl, hs⟩

set_option maxRecDepth 100000 in
theorem impl_isTimetable_ok (F : Nat) (ag : GEventGraph) (ah : Option Addr) (ax aj : Nat) (aC : ax = ag.Places.length) (aE : GTimetable) (aF : Option Addr) (bp aI : Nat) (bG : bp = aE.Starts.length) (r : Bool) (W : World) (hm : impl_isTimetable F ag aE = some r) (_h_p0_g_1 : Rd W ah ((recs GPlace.cells) ag.Places)) (br : Rd W aF (ints aE.Starts)) :
  Calls Try.prog 190 [.agg #[.int .i64 ag.Events, .slice ah ax aj], .agg #[.int .i64 aE.Period, .slice aF bp aI]].toArray W fun e w' => ∃ v, e = .returned v ∧ v = .bool r ∧ St [] W w' [] := by
 subst aC
 subst bG
 unfold impl_isTimetable at hm
 refine Calls.enter (N := 21) Try.func190 rfl rfl rfl (fun a hf => ?_)
 have hs := St.start W
 obtain ⟨w, hw_⟩ : ∃ w, w = W := ⟨W, rfl⟩
 clear hw_ w
 refine wpL_seq <| wpL_region ?_
 refine sBox hf hs rfl rfl rfl rfl rfl (cs := [.int .i64 ag.Events, .slice ah ag.Places.length aj]) rfl ?_; clear hf hs; intro a w b1 hs hf
 have hs : St [] W w [.blk b1 55 [.int .i64 ag.Events, .slice ah ag.Places.length aj]] := hs
 refine sBox hf hs rfl rfl rfl rfl rfl (cs := [.int .i64 aE.Period, .slice aF aE.Starts.length aI]) rfl ?_; clear hf hs; intro a w b2 hs hf
 have hs : St [] W w [.blk b1 55 [.int .i64 ag.Events, .slice ah ag.Places.length aj], .blk b2 66 [.int .i64 aE.Period, .slice aF aE.Starts.length aI]] := hs
 refine sY hf hs rfl rfl rfl (Y_assign rfl rfl) ?_; clear hf; intro a hf
 refine wpO_nil <| wpL_seq ?_
 obtain ⟨r10, hj11, hm⟩ := bind_some hm
 refine wpL_cut (fun a w => ∃ b9 : Bool, b9 = r10 ∧ Fr a 21 [(4, .bool b9)] ∧ St [] W w []) ?_ ?_
 ·refine wpL_region ?_
  refine sY hf hs rfl rfl rfl (Y_fieldAddr rfl rfl fo66_0) ?_; clear hf; intro a hf
  refine sY hf hs rfl rfl rfl (Y_load_blk rfl rfl (i := 1) rfl rfl ag2) ?_; clear hf; intro a hf
  obtain ⟨r12, hc13, hj11⟩ := bind_some hj11
  refine sCall hf rfl rfl rfl rfl (cap := []) rfl rfl en71 (impl_within_ok F aE.Period 0 100000 _ _ hc13) ?_; clear hf
  rintro _ w ⟨rfl, hs1⟩ a hf
  have hs : St [] W w [.blk b1 55 [.int .i64 ag.Events, .slice ah ag.Places.length aj], .blk b2 66 [.int .i64 aE.Period, .slice aF aE.Starts.length aI]] := hs.ext hs1.below
  clear hs1
  refine sY hf hs rfl rfl rfl (Y_move rfl rfl) ?_; clear hf; intro a hf
  refine bsplit r12 (fun hb14 => ?_) (fun hb14 => ?_)
  ·have hj11 := bif_t hj11 hb14
   refine sYg hf hs rfl rfl rfl (congrArg (fun b => some (Value.bool b)) hb14) rfl rfl rfl (Y_fieldAddr rfl rfl fo66_1) ?_; clear hf; intro a hf
   refine sYg hf hs rfl rfl rfl (congrArg (fun b => some (Value.bool b)) hb14) rfl rfl rfl (Y_load_blk rfl rfl (i := 1) rfl rfl ag28) ?_; clear hf; intro a hf
   refine sYg hf hs rfl rfl rfl (congrArg (fun b => some (Value.bool b)) hb14) rfl rfl rfl (Y_lenH rfl rfl el28 rfl) ?_; clear hf; intro a hf
   refine sYg hf hs rfl rfl rfl (congrArg (fun b => some (Value.bool b)) hb14) rfl rfl rfl (Y_fieldAddr rfl rfl fo55_0) ?_; clear hf; intro a hf
   refine sYg hf hs rfl rfl rfl (congrArg (fun b => some (Value.bool b)) hb14) rfl rfl rfl (Y_load_blk rfl rfl (i := 0) rfl rfl ag2) ?_; clear hf; intro a hf
   refine sYg hf hs rfl rfl rfl (congrArg (fun b => some (Value.bool b)) hb14) rfl rfl rfl (Y_eql rfl rfl rfl) ?_; clear hf; intro a hf
   refine sY hf hs rfl rfl rfl (Y_pickT rfl (congrArg (fun b => some (Value.bool b)) hb14) rfl) ?_; clear hf; intro a hf
   refine sY hf hs rfl rfl rfl (Y_move rfl rfl) ?_; clear hf; intro a hf
   refine bsplit ((aE.Starts.length : Int) == ag.Events) (fun hb15 => ?_) (fun hb15 => ?_)
   ·have hj11 := bif_t hj11 hb15
    refine sYg hf hs rfl rfl rfl (congrArg (fun b => some (Value.bool b)) hb15) rfl rfl rfl (Y_fieldAddr rfl rfl fo66_1) ?_; clear hf; intro a hf
    refine sYg hf hs rfl rfl rfl (congrArg (fun b => some (Value.bool b)) hb15) rfl rfl rfl (Y_load_blk rfl rfl (i := 1) rfl rfl ag28) ?_; clear hf; intro a hf
    obtain ⟨r16, hc17, hj11⟩ := bind_some hj11
    refine sCallg hf rfl rfl rfl (congrArg (fun b => some (Value.bool b)) hb15) rfl rfl rfl rfl (cap := []) rfl rfl en74 (impl_allWithin_ok F aE.Starts aF aE.Starts.length aI rfl 0 1000000 _ _ hc17 (br.at hs)) ?_; clear hf
    rintro _ w ⟨rfl, hs1⟩ a hf
    have hs : St [] W w [.blk b1 55 [.int .i64 ag.Events, .slice ah ag.Places.length aj], .blk b2 66 [.int .i64 aE.Period, .slice aF aE.Starts.length aI]] := hs.ext hs1.below
    clear hs1
    refine sY hf hs rfl rfl rfl (Y_pickT rfl (congrArg (fun b => some (Value.bool b)) hb15) rfl) ?_; clear hf; intro a hf
    refine sY hf hs rfl rfl rfl (Y_assign rfl rfl) ?_; clear hf; intro a hf
    refine wpO_nil ?_
    refine wpL_nil (then_normal ?_)
    exact ⟨r16, Option.some.inj hj11, (FrD.pick hf.none hf rfl), hs.sel [] (by decide)⟩
   ·have hj11 := bif_f hj11 hb15
    refine sNo hf rfl rfl rfl (congrArg (fun b => some (Value.bool b)) hb15) rfl rfl rfl ?_; clear hf; intro a hf
    refine sNo hf rfl rfl rfl (congrArg (fun b => some (Value.bool b)) hb15) rfl rfl rfl ?_; clear hf; intro a hf
    refine sNo hf rfl rfl rfl (congrArg (fun b => some (Value.bool b)) hb15) rfl rfl rfl ?_; clear hf; intro a hf
    refine sY hf hs rfl rfl rfl (Y_pickF rfl (congrArg (fun b => some (Value.bool b)) hb15) rfl) ?_; clear hf; intro a hf
    refine sY hf hs rfl rfl rfl (Y_assign rfl rfl) ?_; clear hf; intro a hf
    refine wpO_nil ?_
    refine wpL_nil (then_normal ?_)
    exact ⟨false, Option.some.inj hj11, (FrD.pick hf.none hf rfl), hs.sel [] (by decide)⟩
  ·have hj11 := bif_f hj11 hb14
   refine sNo hf rfl rfl rfl (congrArg (fun b => some (Value.bool b)) hb14) rfl rfl rfl ?_; clear hf; intro a hf
   refine sNo hf rfl rfl rfl (congrArg (fun b => some (Value.bool b)) hb14) rfl rfl rfl ?_; clear hf; intro a hf
   refine sNo hf rfl rfl rfl (congrArg (fun b => some (Value.bool b)) hb14) rfl rfl rfl ?_; clear hf; intro a hf
   refine sNo hf rfl rfl rfl (congrArg (fun b => some (Value.bool b)) hb14) rfl rfl rfl ?_; clear hf; intro a hf
   refine sNo hf rfl rfl rfl (congrArg (fun b => some (Value.bool b)) hb14) rfl rfl rfl ?_; clear hf; intro a hf
   refine sNo hf rfl rfl rfl (congrArg (fun b => some (Value.bool b)) hb14) rfl rfl rfl ?_; clear hf; intro a hf
   refine sY hf hs rfl rfl rfl (Y_pickF rfl (congrArg (fun b => some (Value.bool b)) hb14) rfl) ?_; clear hf; intro a hf
   refine sY hf hs rfl rfl rfl (Y_move rfl rfl) ?_; clear hf; intro a hf
   refine sNo hf rfl rfl rfl rfl rfl rfl rfl ?_; clear hf; intro a hf
   refine sNo hf rfl rfl rfl rfl rfl rfl rfl ?_; clear hf; intro a hf
   refine sNo hf rfl rfl rfl rfl rfl rfl rfl ?_; clear hf; intro a hf
   refine sY hf hs rfl rfl rfl (Y_pickF rfl rfl rfl) ?_; clear hf; intro a hf
   refine sY hf hs rfl rfl rfl (Y_assign rfl rfl) ?_; clear hf; intro a hf
   refine wpO_nil ?_
   refine wpL_nil (then_normal ?_)
   exact ⟨false, Option.some.inj hj11, (FrD.pick hf.none hf rfl), hs.sel [] (by decide)⟩
 ·rintro a w ⟨b9, hr_, hf, hs⟩
  subst hr_
  try dsimp only at hm
  obtain rfl := Option.some.inj hm
  refine wpL_ret (ret_tmp rfl hf rfl ?_)
  exact ⟨_, rfl, rfl, hs⟩

set_option maxRecDepth 100000 in
theorem impl_checkTimetable_ok (F : Nat) (ag : GEventGraph) (ah : Option Addr) (ax aj : Nat) (aC : ax = ag.Places.length) (aE : GTimetable) (aF : Option Addr) (bp aI : Nat) (bG : bp = aE.Starts.length) (r : Int) (W : World) (hm : impl_checkTimetable F ag aE = some r) (ay : Rd W ah ((recs GPlace.cells) ag.Places)) (br : Rd W aF (ints aE.Starts)) :
  Calls Try.prog 125 [.agg #[.int .i64 ag.Events, .slice ah ax aj], .agg #[.int .i64 aE.Period, .slice aF bp aI]].toArray W fun e w' => ∃ v, e = .returned v ∧ v = .int .i64 r ∧ St [] W w' [] := by
 subst aC
 subst bG
 unfold impl_checkTimetable at hm
 refine Calls.enter (N := 14) Try.func125 rfl rfl rfl (fun a hf => ?_)
 have hs := St.start W
 obtain ⟨w, hw_⟩ : ∃ w, w = W := ⟨W, rfl⟩
 clear hw_ w
 refine wpL_seq <| wpL_region ?_
 refine sBox hf hs rfl rfl rfl rfl rfl (cs := [.int .i64 ag.Events, .slice ah ag.Places.length aj]) rfl ?_; clear hf hs; intro a w b1 hs hf
 have hs : St [] W w [.blk b1 55 [.int .i64 ag.Events, .slice ah ag.Places.length aj]] := hs
 refine sBox hf hs rfl rfl rfl rfl rfl (cs := [.int .i64 aE.Period, .slice aF aE.Starts.length aI]) rfl ?_; clear hf hs; intro a w b2 hs hf
 have hs : St [] W w [.blk b1 55 [.int .i64 ag.Events, .slice ah ag.Places.length aj], .blk b2 66 [.int .i64 aE.Period, .slice aF aE.Starts.length aI]] := hs
 refine sY hf hs rfl rfl rfl (Y_assign rfl rfl) ?_; clear hf; intro a hf
 refine wpO_nil <| wpL_seq <| wpL_block0 <| wpL_seq <| wpL_region ?_
 refine sY hf hs rfl rfl rfl (Y_load_blkS rfl rfl (i := 0) rfl ag55 ti55 rfl) ?_; clear hf; intro a hf
 obtain ⟨r3, hc4, hm⟩ := bind_some hm
 refine sCall hf rfl rfl rfl rfl (cap := []) rfl rfl en110 (impl_IsEventGraph_ok F ag ah ag.Places.length aj rfl _ _ hc4 (ay.at hs)) ?_; clear hf
 rintro _ w ⟨rfl, hs1⟩ a hf
 have hs : St [] W w [.blk b1 55 [.int .i64 ag.Events, .slice ah ag.Places.length aj], .blk b2 66 [.int .i64 aE.Period, .slice aF aE.Starts.length aI]] := hs.ext hs1.below
 clear hs1
 refine sY hf hs rfl rfl rfl (Y_not rfl rfl) ?_; clear hf; intro a hf
 refine sY hf hs rfl rfl rfl (Y_assign rfl rfl) ?_; clear hf; intro a hf
 refine wpO_nil ?_
 refine wpL_cond hf rfl (fun hb5 => ?_) (fun hb5 => ?_)
 ·have hm := bif_t hm hb5
  refine wpL_seq <| wpL_region ?_
  refine sY hf hs rfl rfl rfl (Y_assign rfl rfl) ?_; clear hf; intro a hf
  refine wpO_nil ?_
  obtain rfl := Option.some.inj hm
  refine wpL_ret (Qb_ret (ret_tmp rfl hf rfl ?_))
  exact ⟨_, rfl, rfl, hs.sel [] (by decide)⟩
 ·have hm := bif_f hm hb5
  refine wpL_seq <| wpL_region ?_
  refine sY hf hs rfl rfl rfl (Y_load_blkS rfl rfl (i := 0) rfl ag55 ti55 rfl) ?_; clear hf; intro a hf
  refine sY hf hs rfl rfl rfl (Y_load_blkS rfl rfl (i := 1) rfl ag66 ti66 rfl) ?_; clear hf; intro a hf
  obtain ⟨r6, hc7, hm⟩ := bind_some hm
  refine sCall hf rfl rfl rfl rfl (cap := []) rfl rfl en190 (impl_isTimetable_ok F ag ah ag.Places.length aj rfl aE aF aE.Starts.length aI rfl _ _ hc7 (ay.at hs) (br.at hs)) ?_; clear hf
  rintro _ w ⟨rfl, hs1⟩ a hf
  have hs : St [] W w [.blk b1 55 [.int .i64 ag.Events, .slice ah ag.Places.length aj], .blk b2 66 [.int .i64 aE.Period, .slice aF aE.Starts.length aI]] := hs.ext hs1.below
  clear hs1
  refine sY hf hs rfl rfl rfl (Y_not rfl rfl) ?_; clear hf; intro a hf
  refine sY hf hs rfl rfl rfl (Y_assign rfl rfl) ?_; clear hf; intro a hf
  refine wpO_nil ?_
  refine wpL_cond hf rfl (fun hb8 => ?_) (fun hb8 => ?_)
  ·have hm := bif_t hm hb8
   refine wpL_seq <| wpL_region ?_
   refine sY hf hs rfl rfl rfl (Y_assign rfl rfl) ?_; clear hf; intro a hf
   refine wpO_nil ?_
   obtain rfl := Option.some.inj hm
   refine wpL_ret (Qb_ret (ret_tmp rfl hf rfl ?_))
   exact ⟨_, rfl, rfl, hs.sel [] (by decide)⟩
  ·have hm := bif_f hm hb8
   refine wpL_skip ?_
   refine wpL_nil (Qb_normal ?_)
   refine wpL_seq <| wpL_region ?_
   refine sY hf hs rfl rfl rfl (Y_assign rfl rfl) ?_; clear hf; intro a hf
   refine wpO_nil ?_
   obtain rfl := Option.some.inj hm
   refine wpL_ret (ret_tmp rfl hf rfl ?_)
   exact ⟨_, rfl, rfl, hs.sel [] (by decide)⟩

set_option maxRecDepth 100000 in
theorem impl_slacksOf_ok (F : Nat) (ag : GEventGraph) (ah : Option Addr) (ax aj : Nat) (aC : ax = ag.Places.length) (aE : GTimetable) (aF : Option Addr) (bp aI : Nat) (bG : bp = aE.Starts.length) (r : List Int) (W : World) (hm : impl_slacksOf F ag aE = some r) (ay : Rd W ah ((recs GPlace.cells) ag.Places)) (br : Rd W aF (ints aE.Starts)) :
  Calls Try.prog 192 [.agg #[.int .i64 ag.Events, .slice ah ax aj], .agg #[.int .i64 aE.Period, .slice aF bp aI]].toArray W fun e w' => ∃ v, e = .returned v ∧ ∃ A66, ∃ n67, ∃ c68, v = .slice A66 n67 c68 ∧ n67 = r.length ∧ St [] W w' [.row A66 n67 c68 2 1 (ints r)] := by
 subst aC
 subst bG
 unfold impl_slacksOf at hm
 refine Calls.enter (N := 47) Try.func192 rfl rfl rfl (fun a hf => ?_)
 have hs := St.start W
 obtain ⟨w, hw_⟩ : ∃ w, w = W := ⟨W, rfl⟩
 clear hw_ w
 refine wpL_seq <| wpL_region ?_
 refine sBox hf hs rfl rfl rfl rfl rfl (cs := [.int .i64 ag.Events, .slice ah ag.Places.length aj]) rfl ?_; clear hf hs; intro a w b1 hs hf
 have hs : St [] W w [.blk b1 55 [.int .i64 ag.Events, .slice ah ag.Places.length aj]] := hs
 refine sBox hf hs rfl rfl rfl rfl rfl (cs := [.int .i64 aE.Period, .slice aF aE.Starts.length aI]) rfl ?_; clear hf hs; intro a w b2 hs hf
 have hs : St [] W w [.blk b1 55 [.int .i64 ag.Events, .slice ah ag.Places.length aj], .blk b2 66 [.int .i64 aE.Period, .slice aF aE.Starts.length aI]] := hs
 refine sY hf hs rfl rfl rfl (Y_assign rfl rfl) ?_; clear hf; intro a hf
 refine wpO_nil <| wpL_seq <| wpL_region ?_
 refine sY hf hs rfl rfl rfl (Y_fieldAddr rfl rfl fo55_1) ?_; clear hf; intro a hf
 refine sY hf hs rfl rfl rfl (Y_load_blk rfl rfl (i := 0) rfl rfl ag53) ?_; clear hf; intro a hf
 refine sY hf hs rfl rfl rfl (Y_lenH rfl rfl el53 rfl) ?_; clear hf; intro a hf
 obtain ⟨xs5, hk4, hm⟩ := bind_some hm
 refine sMakeL (enc := ints) hf hs rfl rfl rfl rfl rfl hk4 el28 ti2 rfl ints_made ?_; clear hf hs; intro a w A3 hs hf
 have hs : St [] W w [.blk b1 55 [.int .i64 ag.Events, .slice ah ag.Places.length aj], .blk b2 66 [.int .i64 aE.Period, .slice aF aE.Starts.length aI], .row A3 xs5.length xs5.length 2 1 (ints xs5)] := hs
 refine sY hf hs rfl rfl rfl (Y_assign rfl rfl) ?_; clear hf; intro a hf
 refine wpO_nil <| wpL_seq <| wpL_seq <| wpL_region ?_
 refine sY hf hs rfl rfl rfl (Y_fieldAddr rfl rfl fo55_1) ?_; clear hf; intro a hf
 refine sY hf hs rfl rfl rfl (Y_load_blk rfl rfl (i := 0) rfl rfl ag53) ?_; clear hf; intro a hf
 refine sY hf hs rfl rfl rfl (Y_lenH rfl rfl el53 rfl) ?_; clear hf; intro a hf
 refine sY hf hs rfl rfl rfl (Y_move rfl rfl) ?_; clear hf; intro a hf
 refine wpO_nil ?_
 obtain ⟨r50, hl51, hm⟩ := bind_some hm
 refine wpL_block (fun a w => ∃ xs48 : List Int, xs48 = r50 ∧ xs5.length = xs48.length ∧ Fr a 47 [(5, .slice A3 xs5.length xs5.length)] ∧ St [] W w [.row A3 xs5.length xs5.length 2 1 (ints xs48)]) ?_ ?_
 ·refine wpL_loop (fun n a w => ∃ xs33 : List Int, ∃ x35 : Int, impl_slacksOf_L1 F ag aE n xs33 x35 = some r50 ∧ xs5.length = xs33.length ∧ Fr a 47 [(3, .pointer (some ⟨b2, 0, none⟩)), (5, .slice A3 xs5.length xs5.length), (13, .slice ah ag.Places.length aj), (14, .int .i64 (ag.Places.length : Int)), (15, .int .i64 x35)] ∧ St [] W w [.blk b2 66 [.int .i64 aE.Period, .slice aF aE.Starts.length aI], .row A3 xs5.length xs5.length 2 1 (ints xs33)]) F ?_ ?_ ?_
  ·exact ⟨xs5, 0, hl51, rfl, (FrD.pick (FrD.pick (FrD.pick (FrD.pick (FrD.pick hf.none hf rfl) hf rfl) hf rfl) hf rfl) hf rfl), hs.sel [1, 2] (by decide)⟩
  ·rintro a w ⟨xs33, x35, h0_, -, -, -⟩; simp [impl_slacksOf_L1] at h0_
  ·rintro n53 a w ⟨xs33, x35, hm52, hn34, hf, hs⟩
   rw [impl_slacksOf_L1] at hm52
   refine wpL_seq <| wpL_region ?_
   refine sY hf hs rfl rfl rfl (Y_lss rfl rfl rfl) ?_; clear hf; intro a hf
   refine wpO_nil <| wpL_seq ?_
   refine wpL_cond hf rfl (fun hb54 => ?_) (fun hb54 => ?_)
   ·have hm52 := bif_t hm52 hb54
    refine wpL_skip <| wpL_seq <| wpL_block0 <| wpL_seq <| wpL_region ?_
    refine sY hf hs rfl rfl rfl (Y_move rfl rfl) ?_; clear hf; intro a hf
    obtain ⟨q55, hi56, hm52⟩ := bind_some hm52
    obtain ⟨hi56a, hi56b, hi56q⟩ := idx_some hi56
    refine sY hf hs rfl rfl rfl (Y_index rfl rfl rfl el53 ti64 (Rd.isAt (ay.at hs) (recs_at (s := 4) GPlace.len hi56q (j := 0) rfl)) hi56a hi56b) ?_; clear hf; intro a hf
    refine sY hf hs rfl rfl rfl (Y_load_rdS rfl rfl (us := [.int .i64 q55.From, .int .i64 q55.To, .int .i64 q55.Delay, .int .i64 q55.Tokens]) (fun w hs => ay.at hs) (fun j u hj => recs_at (s := 4) GPlace.len hi56q hj) (Nat.succ_pos _) ag64 ti64 rfl) ?_; clear hf; intro a hf
    refine sAlloc hf hs rfl rfl rfl rfl ti64 ?_; clear hf hs; intro a w b57 hs hf
    have hs : St [] W w [.blk b2 66 [.int .i64 aE.Period, .slice aF aE.Starts.length aI], .row A3 xs5.length xs5.length 2 1 (ints xs33), .blk b57 64 [.int .i64 0, .int .i64 0, .int .i64 0, .int .i64 0]] := hs
    refine sY hf hs rfl rfl rfl (Y_assign rfl rfl) ?_; clear hf; intro a hf
    refine sStore (i := 2) (us := [.int .i64 q55.From, .int .i64 q55.To, .int .i64 q55.Delay, .int .i64 q55.Tokens]) hf hs rfl rfl rfl rfl rfl rfl ti64 rfl rfl rfl (Nat.le_of_ble_eq_true rfl) rfl ?_; clear hs; intro w hs
    have hs : St [] W w [.blk b2 66 [.int .i64 aE.Period, .slice aF aE.Starts.length aI], .row A3 xs5.length xs5.length 2 1 (ints xs33), .blk b57 64 [.int .i64 q55.From, .int .i64 q55.To, .int .i64 q55.Delay, .int .i64 q55.Tokens]] := hs
    refine wpO_nil ?_
    refine wpL_drawM [.blk b2 66 [.int .i64 aE.Period, .slice aF aE.Starts.length aI], .row A3 xs5.length xs5.length 2 1 (ints xs33), .blk b57 64 [.int .i64 q55.From, .int .i64 q55.To, .int .i64 q55.Delay, .int .i64 q55.Tokens]] [25] (by kernel_rfl) hs ?_; clear hs; intro w hs
    have hs0 : St [] W w [.blk b2 66 [.int .i64 aE.Period, .slice aF aE.Starts.length aI], .row A3 xs5.length xs5.length 2 1 (ints xs33), .blk b57 64 [.int .i64 q55.From, .int .i64 q55.To, .int .i64 q55.Delay, .int .i64 q55.Tokens]] := hs
    refine mYp (i := 0) rfl (by kernel_rfl) (by kernel_rfl) hf rfl rfl rfl (fun _ => Y_move rfl rfl) ?_; clear hf; intro a hf
    refine mYp (i := 1) rfl (by kernel_rfl) (by kernel_rfl) hf rfl rfl rfl (fun _ => Y_move rfl rfl) ?_; clear hf; intro a hf
    refine mYp (i := 2) rfl (by kernel_rfl) (by kernel_rfl) hf rfl rfl rfl (fun _ => Y_fieldAddr rfl rfl fo66_1) ?_; clear hf; intro a hf
    refine mY (i := 3) [[]] rfl (by kernel_rfl) (by kernel_rfl) hf hs0 rfl rfl rfl (Y_load_blk rfl rfl (i := 0) rfl rfl ag28) ?_; clear hf; intro a hf
    refine mYp (i := 4) rfl (by kernel_rfl) (by kernel_rfl) hf rfl rfl rfl (fun _ => Y_fieldAddr rfl rfl fo64_1) ?_; clear hf; intro a hf
    refine mY (i := 5) [[]] rfl (by kernel_rfl) (by kernel_rfl) hf hs0 rfl rfl rfl (Y_load_blk rfl rfl (i := 2) rfl rfl ag2) ?_; clear hf; intro a hf
    obtain ⟨q58, hi59, hm52⟩ := bind_some hm52
    obtain ⟨hi59a, hi59b, hi59q⟩ := idx_some hi59
    refine mYp (i := 6) rfl (by kernel_rfl) (by kernel_rfl) hf rfl rfl rfl (fun _ => Y_index rfl rfl rfl el28 ti2 (Rd.isAt (br.at hs) (at1 (ints_at hi59q))) hi59a hi59b) ?_; clear hf; intro a hf
    refine mY (i := 7) [[]] rfl (by kernel_rfl) (by kernel_rfl) hf hs0 rfl rfl rfl (Y_load_rd rfl rfl (fun w hs => br.at hs) (at1 (ints_at hi59q)) ag2) ?_; clear hf; intro a hf
    refine mYp (i := 8) rfl (by kernel_rfl) (by kernel_rfl) hf rfl rfl rfl (fun _ => Y_fieldAddr rfl rfl fo64_3) ?_; clear hf; intro a hf
    refine mY (i := 9) [[]] rfl (by kernel_rfl) (by kernel_rfl) hf hs0 rfl rfl rfl (Y_load_blk rfl rfl (i := 2) rfl rfl ag2) ?_; clear hf; intro a hf
    refine mYp (i := 10) rfl (by kernel_rfl) (by kernel_rfl) hf rfl rfl rfl (fun _ => Y_fieldAddr rfl rfl fo66_0) ?_; clear hf; intro a hf
    refine mY (i := 11) [[]] rfl (by kernel_rfl) (by kernel_rfl) hf hs0 rfl rfl rfl (Y_load_blk rfl rfl (i := 0) rfl rfl ag2) ?_; clear hf; intro a hf
    refine mYp (i := 12) rfl (by kernel_rfl) (by kernel_rfl) hf rfl rfl rfl (fun _ => Y_mul rfl rfl rfl) ?_; clear hf; intro a hf
    refine mYp (i := 13) rfl (by kernel_rfl) (by kernel_rfl) hf rfl rfl rfl (fun _ => Y_add rfl rfl rfl) ?_; clear hf; intro a hf
    refine mYp (i := 14) rfl (by kernel_rfl) (by kernel_rfl) hf rfl rfl rfl (fun _ => Y_fieldAddr rfl rfl fo66_1) ?_; clear hf; intro a hf
    refine mY (i := 15) [[]] rfl (by kernel_rfl) (by kernel_rfl) hf hs0 rfl rfl rfl (Y_load_blk rfl rfl (i := 0) rfl rfl ag28) ?_; clear hf; intro a hf
    refine mYp (i := 16) rfl (by kernel_rfl) (by kernel_rfl) hf rfl rfl rfl (fun _ => Y_fieldAddr rfl rfl fo64_0) ?_; clear hf; intro a hf
    refine mY (i := 17) [[]] rfl (by kernel_rfl) (by kernel_rfl) hf hs0 rfl rfl rfl (Y_load_blk rfl rfl (i := 2) rfl rfl ag2) ?_; clear hf; intro a hf
    obtain ⟨q60, hi61, hm52⟩ := bind_some hm52
    obtain ⟨hi61a, hi61b, hi61q⟩ := idx_some hi61
    refine mYp (i := 18) rfl (by kernel_rfl) (by kernel_rfl) hf rfl rfl rfl (fun _ => Y_index rfl rfl rfl el28 ti2 (Rd.isAt (br.at hs) (at1 (ints_at hi61q))) hi61a hi61b) ?_; clear hf; intro a hf
    refine mY (i := 19) [[]] rfl (by kernel_rfl) (by kernel_rfl) hf hs0 rfl rfl rfl (Y_load_rd rfl rfl (fun w hs => br.at hs) (at1 (ints_at hi61q)) ag2) ?_; clear hf; intro a hf
    refine mYp (i := 20) rfl (by kernel_rfl) (by kernel_rfl) hf rfl rfl rfl (fun _ => Y_sub rfl rfl rfl) ?_; clear hf; intro a hf
    refine mYp (i := 21) rfl (by kernel_rfl) (by kernel_rfl) hf rfl rfl rfl (fun _ => Y_fieldAddr rfl rfl fo64_2) ?_; clear hf; intro a hf
    refine mY (i := 22) [[]] rfl (by kernel_rfl) (by kernel_rfl) hf hs0 rfl rfl rfl (Y_load_blk rfl rfl (i := 2) rfl rfl ag2) ?_; clear hf; intro a hf
    refine mYp (i := 23) rfl (by kernel_rfl) (by kernel_rfl) hf rfl rfl rfl (fun _ => Y_sub rfl rfl rfl) ?_; clear hf; intro a hf
    obtain ⟨q62, hi63, hm52⟩ := bind_some hm52
    obtain ⟨hi63a, hi63b, hi63q⟩ := idx_some hi63
    refine mYp (i := 24) rfl (by kernel_rfl) (by kernel_rfl) hf rfl rfl rfl (fun _ => Y_index rfl rfl rfl el28 ti2 (Rd.isAt (hs.rd (i := 1) rfl) (at1 (ints_at hi63q))) hi63a (ltn hn34 hi63b)) ?_; clear hf; intro a hf
    refine mRun (i := 25) rfl (by kernel_rfl) ?_
    obtain ⟨xs64, hu65, hm52⟩ := bind_some hm52
    refine sStoreL (i := 1) (us := [.int .i64 (IntKind.i64.wrap ((IntKind.i64.wrap ((IntKind.i64.wrap (q58 + (IntKind.i64.wrap (q55.Tokens * aE.Period)))) - q60)) - q55.Delay))]) (enc := ints) hf hs rfl rfl rfl rfl rfl rfl hn34 hu65 ti2 rfl rfl rfl rfl rfl ints_len1 (ints_set (IntKind.i64.wrap ((IntKind.i64.wrap ((IntKind.i64.wrap (q58 + (IntKind.i64.wrap (q55.Tokens * aE.Period)))) - q60)) - q55.Delay))) ?_; clear hs; intro w hs
    have hs : St [] W w [.blk b2 66 [.int .i64 aE.Period, .slice aF aE.Starts.length aI], .row A3 xs5.length xs5.length 2 1 (ints xs64), .blk b57 64 [.int .i64 q55.From, .int .i64 q55.To, .int .i64 q55.Delay, .int .i64 q55.Tokens]] := hs
    refine wpO_nil ⟨Or.inl (by decide), ?_⟩
    refine mDone (by kernel_rfl) ?_
    clear hs0
    refine wpL_nil (Qb_normal ?_)
    refine wpL_region ?_
    refine sY hf hs rfl rfl rfl (Y_add rfl rfl rfl) ?_; clear hf; intro a hf
    refine sY hf hs rfl rfl rfl (Y_move rfl rfl) ?_; clear hf; intro a hf
    refine wpO_nil ?_
    refine wpL_nil (Ql_normal ?_)
    exact ⟨xs64, (IntKind.i64.wrap (x35 + 1)), hm52, ((hn34).trans (upd_len hu65).symm), (FrD.pick (FrD.pick (FrD.pick (FrD.pick (FrD.pick hf.none hf rfl) hf rfl) hf rfl) hf rfl) hf rfl), hs.sel [0, 1] (by decide)⟩
   ·have hm52 := bif_f hm52 hb54
    refine wpL_exit (Ql_exit (Qb_exit ?_))
    exact ⟨xs33, Option.some.inj hm52, hn34, (FrD.pick hf.none hf rfl), hs.sel [1] (by decide)⟩
 ·rintro a w ⟨xs48, hr_, hn49, hf, hs⟩
  subst hr_
  try dsimp only at hm
  refine wpL_seq <| wpL_region ?_
  refine sY hf hs rfl rfl rfl (Y_move rfl rfl) ?_; clear hf; intro a hf
  refine sY hf hs rfl rfl rfl (Y_assign rfl rfl) ?_; clear hf; intro a hf
  refine wpO_nil ?_
  obtain rfl := Option.some.inj hm
  refine wpL_ret (ret_tmp rfl hf rfl ?_)
  exact ⟨_, rfl, A3, xs5.length, xs5.length, rfl, hn49, hs⟩

set_option maxRecDepth 100000 in
theorem slices_IndexFunc_int64_ok (F : Nat) (aT : List Int) (aK : Option Addr) (aY aQ : Nat) (bu : aY = aT.length) (bE : Int → Option Bool) (bn : FuncId) (bv : List Value) (r : Int) (W : World) (hm : slices_IndexFunc_int64 F aT bE = some r) (bo : Rd W aK (ints aT)) (cd : ∀ (x0 : Int) (r : Bool) (w : World), bE x0 = some r → Below W.heap.size W w → Calls Try.prog bn (([.int .i64 x0] : List Value) ++ bv).toArray w fun e w' => ∃ v, e = .returned v ∧ v = .bool r ∧ St [] w w' []) (ce : En Try.prog bn) :
  Calls Try.prog 217 [.slice aK aY aQ, .func (.func bn) #[] bv.toArray].toArray W fun e w' => ∃ v, e = .returned v ∧ v = .int .i64 r ∧ St [] W w' [] := by
 subst bu
 unfold slices_IndexFunc_int64 at hm
 refine Calls.enter (N := 19) Try.func217 rfl rfl rfl (fun a hf => ?_)
 have hs := St.start W
 obtain ⟨w, hw_⟩ : ∃ w, w = W := ⟨W, rfl⟩
 clear hw_ w
 refine wpL_seq <| wpL_region ?_
 refine sY hf hs rfl rfl rfl (Y_assign rfl rfl) ?_; clear hf; intro a hf
 refine wpO_nil <| wpL_seq <| wpL_seq <| wpL_region ?_
 refine sY hf hs rfl rfl rfl (Y_move rfl rfl) ?_; clear hf; intro a hf
 refine sY hf hs rfl rfl rfl (Y_lenH rfl rfl el28 rfl) ?_; clear hf; intro a hf
 refine sY hf hs rfl rfl rfl (Y_move rfl rfl) ?_; clear hf; intro a hf
 refine wpO_nil ?_
 obtain ⟨r21, hl22, hm⟩ := bind_some hm
 refine wpL_block (fun a w => Sum.inr () = r21 ∧ Fr a 19 [] ∧ St [] W w []) ?_ ?_
 ·refine wpL_loop (fun n a w => ∃ x14 : Int, slices_IndexFunc_int64_L1 F aT bE n x14 = some r21 ∧ Fr a 19 [(0, .slice aK aT.length aQ), (1, .func (.func bn) #[] bv.toArray), (7, .int .i64 (aT.length : Int)), (8, .int .i64 x14)] ∧ St [] W w []) F ?_ ?_ ?_
  ·exact ⟨0, hl22, (FrD.pick (FrD.pick (FrD.pick (FrD.pick hf.none hf rfl) hf rfl) hf rfl) hf rfl), hs⟩
  ·rintro a w ⟨x14, h0_, -, -⟩; simp [slices_IndexFunc_int64_L1] at h0_
  ·rintro n24 a w ⟨x14, hm23, hf, hs⟩
   rw [slices_IndexFunc_int64_L1] at hm23
   refine wpL_seq <| wpL_region ?_
   refine sY hf hs rfl rfl rfl (Y_lss rfl rfl rfl) ?_; clear hf; intro a hf
   refine wpO_nil <| wpL_seq ?_
   refine wpL_cond hf rfl (fun hb25 => ?_) (fun hb25 => ?_)
   ·have hm23 := bif_t hm23 hb25
    refine wpL_skip <| wpL_seq <| wpL_block0 <| wpL_seq <| wpL_region ?_
    refine sY hf hs rfl rfl rfl (Y_move rfl rfl) ?_; clear hf; intro a hf
    refine sY hf hs rfl rfl rfl (Y_assign rfl rfl) ?_; clear hf; intro a hf
    refine wpO_nil <| wpL_seq <| wpL_region ?_
    refine sY hf hs rfl rfl rfl (Y_move rfl rfl) ?_; clear hf; intro a hf
    refine sY hf hs rfl rfl rfl (Y_move rfl rfl) ?_; clear hf; intro a hf
    refine sY hf hs rfl rfl rfl (Y_move rfl rfl) ?_; clear hf; intro a hf
    obtain ⟨q26, hi27, hm23⟩ := bind_some hm23
    obtain ⟨hi27a, hi27b, hi27q⟩ := idx_some hi27
    refine sY hf hs rfl rfl rfl (Y_index rfl rfl rfl el28 ti2 (Rd.isAt (bo.at hs) (at1 (ints_at hi27q))) hi27a hi27b) ?_; clear hf; intro a hf
    refine sY hf hs rfl rfl rfl (Y_load_rd rfl rfl (fun w hs => bo.at hs) (at1 (ints_at hi27q)) ag2) ?_; clear hf; intro a hf
    obtain ⟨r28, hc29, hm23⟩ := bind_some hm23
    refine sCall hf rfl rfl rfl rfl (cap := bv) rfl rfl ce (cd q26 _ _ hc29 hs.below) ?_; clear hf; rintro _ w ⟨rfl, hs1⟩ a hf; have hs := hs.ext hs1.below; clear hs1
    refine wpO_nil ?_
    refine wpL_cond hf rfl (fun hb30 => ?_) (fun hb30 => ?_)
    ·have hm23 := bif_t hm23 hb30
     refine wpL_seq <| wpL_region ?_
     refine sY hf hs rfl rfl rfl (Y_move rfl rfl) ?_; clear hf; intro a hf
     refine sY hf hs rfl rfl rfl (Y_assign rfl rfl) ?_; clear hf; intro a hf
     refine wpO_nil ?_
     obtain rfl := Option.some.inj hm23
     try dsimp only at hm
     obtain rfl := Option.some.inj hm
     refine wpL_ret (Qb_ret (Ql_ret (Qb_ret (ret_tmp rfl hf rfl ?_))))
     exact ⟨_, rfl, rfl, hs⟩
    ·have hm23 := bif_f hm23 hb30
     refine wpL_skip ?_
     refine wpL_nil (Qb_normal ?_)
     refine wpL_region ?_
     refine sY hf hs rfl rfl rfl (Y_add rfl rfl rfl) ?_; clear hf; intro a hf
     refine sY hf hs rfl rfl rfl (Y_move rfl rfl) ?_; clear hf; intro a hf
     refine wpO_nil ?_
     refine wpL_nil (Ql_normal ?_)
     exact ⟨(IntKind.i64.wrap (x14 + 1)), hm23, (FrD.pick (FrD.pick (FrD.pick (FrD.pick hf.none hf rfl) hf rfl) hf rfl) hf rfl), hs⟩
   ·have hm23 := bif_f hm23 hb25
    refine wpL_exit (Ql_exit (Qb_exit ?_))
    exact ⟨Option.some.inj hm23, hf.none, hs⟩
 ·rintro a w ⟨hr_, hf, hs⟩
  subst hr_
  try dsimp only at hm
  refine wpL_seq <| wpL_region ?_
  refine sY hf hs rfl rfl rfl (Y_assign rfl rfl) ?_; clear hf; intro a hf
  refine wpO_nil ?_
  obtain rfl := Option.some.inj hm
  refine wpL_ret (ret_tmp rfl hf rfl ?_)
  exact ⟨_, rfl, rfl, hs⟩

set_option maxRecDepth 100000 in
theorem slices_ContainsFunc_int64_ok (F : Nat) (aT : List Int) (aK : Option Addr) (aY aQ : Nat) (bu : aY = aT.length) (bE : Int → Option Bool) (bn : FuncId) (bv : List Value) (r : Bool) (W : World) (hm : slices_ContainsFunc_int64 F aT bE = some r) (bo : Rd W aK (ints aT)) (cd : ∀ (x0 : Int) (r : Bool) (w : World), bE x0 = some r → Below W.heap.size W w → Calls Try.prog bn (([.int .i64 x0] : List Value) ++ bv).toArray w fun e w' => ∃ v, e = .returned v ∧ v = .bool r ∧ St [] w w' []) (ce : En Try.prog bn) :
  Calls Try.prog 191 [.slice aK aY aQ, .func (.func bn) #[] bv.toArray].toArray W fun e w' => ∃ v, e = .returned v ∧ v = .bool r ∧ St [] W w' [] := by
 subst bu
 unfold slices_ContainsFunc_int64 at hm
 refine Calls.enter (N := 9) Try.func191 rfl rfl rfl (fun a hf => ?_)
 have hs := St.start W
 obtain ⟨w, hw_⟩ : ∃ w, w = W := ⟨W, rfl⟩
 clear hw_ w
 refine wpL_seq <| wpL_region ?_
 refine sY hf hs rfl rfl rfl (Y_assign rfl rfl) ?_; clear hf; intro a hf
 refine wpO_nil <| wpL_seq <| wpL_region ?_
 refine sY hf hs rfl rfl rfl (Y_move rfl rfl) ?_; clear hf; intro a hf
 refine sY hf hs rfl rfl rfl (Y_move rfl rfl) ?_; clear hf; intro a hf
 obtain ⟨r1, hc2, hm⟩ := bind_some hm
 refine sCall hf rfl rfl rfl rfl (cap := []) rfl rfl en217 (slices_IndexFunc_int64_ok F aT aK aT.length aQ rfl bE bn bv _ _ hc2 (bo.at hs) (fun x0 r w' hm_ hb => cd x0 r w' hm_ (hs.below.trans (hb.mono hs.below.size))) ce) ?_; clear hf
 rintro _ w ⟨rfl, hs1⟩ a hf
 have hs : St [] W w [] := hs.ext hs1.below
 clear hs1
 refine sY hf hs rfl rfl rfl (Y_geq rfl rfl rfl) ?_; clear hf; intro a hf
 refine sY hf hs rfl rfl rfl (Y_assign rfl rfl) ?_; clear hf; intro a hf
 refine wpO_nil ?_
 obtain rfl := Option.some.inj hm
 refine wpL_ret (ret_tmp rfl hf rfl ?_)
 exact ⟨_, rfl, rfl, hs⟩

set_option maxRecDepth 100000 in
theorem impl_isKept_c1_ok (F : Nat) (cE : Int) (r : Bool) (W : World) (hm : impl_isKept_c1 F cE = some r) :
  Calls Try.prog 193 [.int .i64 cE].toArray W fun e w' => ∃ v, e = .returned v ∧ v = .bool r ∧ St [] W w' [] := by
 unfold impl_isKept_c1 at hm
 refine Calls.enter (N := 5) Try.func193 rfl rfl rfl (fun a hf => ?_)
 have hs := St.start W
 obtain ⟨w, hw_⟩ : ∃ w, w = W := ⟨W, rfl⟩
 clear hw_ w
 refine wpL_seq <| wpL_region ?_
 refine sY hf hs rfl rfl rfl (Y_assign rfl rfl) ?_; clear hf; intro a hf
 refine wpO_nil <| wpL_seq <| wpL_region ?_
 refine sY hf hs rfl rfl rfl (Y_move rfl rfl) ?_; clear hf; intro a hf
 refine sY hf hs rfl rfl rfl (Y_lss rfl rfl rfl) ?_; clear hf; intro a hf
 refine sY hf hs rfl rfl rfl (Y_assign rfl rfl) ?_; clear hf; intro a hf
 refine wpO_nil ?_
 obtain rfl := Option.some.inj hm
 refine wpL_ret (ret_tmp rfl hf rfl ?_)
 exact ⟨_, rfl, rfl, hs⟩

set_option maxRecDepth 100000 in
theorem impl_isKept_ok (F : Nat) (ag : GEventGraph) (ah : Option Addr) (ax aj : Nat) (aC : ax = ag.Places.length) (aE : GTimetable) (aF : Option Addr) (bp aI : Nat) (bG : bp = aE.Starts.length) (r : Bool) (W : World) (hm : impl_isKept F ag aE = some r) (ay : Rd W ah ((recs GPlace.cells) ag.Places)) (br : Rd W aF (ints aE.Starts)) :
  Calls Try.prog 126 [.agg #[.int .i64 ag.Events, .slice ah ax aj], .agg #[.int .i64 aE.Period, .slice aF bp aI]].toArray W fun e w' => ∃ v, e = .returned v ∧ v = .bool r ∧ St [] W w' [] := by
 subst aC
 subst bG
 unfold impl_isKept at hm
 refine Calls.enter (N := 10) Try.func126 rfl rfl rfl (fun a hf => ?_)
 have hs := St.start W
 obtain ⟨w, hw_⟩ : ∃ w, w = W := ⟨W, rfl⟩
 clear hw_ w
 refine wpL_seq <| wpL_region ?_
 refine sBox hf hs rfl rfl rfl rfl rfl (cs := [.int .i64 ag.Events, .slice ah ag.Places.length aj]) rfl ?_; clear hf hs; intro a w b1 hs hf
 have hs : St [] W w [.blk b1 55 [.int .i64 ag.Events, .slice ah ag.Places.length aj]] := hs
 refine sBox hf hs rfl rfl rfl rfl rfl (cs := [.int .i64 aE.Period, .slice aF aE.Starts.length aI]) rfl ?_; clear hf hs; intro a w b2 hs hf
 have hs : St [] W w [.blk b1 55 [.int .i64 ag.Events, .slice ah ag.Places.length aj], .blk b2 66 [.int .i64 aE.Period, .slice aF aE.Starts.length aI]] := hs
 refine sY hf hs rfl rfl rfl (Y_assign rfl rfl) ?_; clear hf; intro a hf
 refine wpO_nil <| wpL_seq <| wpL_region ?_
 refine sY hf hs rfl rfl rfl (Y_load_blkS rfl rfl (i := 0) rfl ag55 ti55 rfl) ?_; clear hf; intro a hf
 refine sY hf hs rfl rfl rfl (Y_load_blkS rfl rfl (i := 1) rfl ag66 ti66 rfl) ?_; clear hf; intro a hf
 obtain ⟨r3, hc4, hm⟩ := bind_some hm
 refine sCall hf rfl rfl rfl rfl (cap := []) rfl rfl en192 (impl_slacksOf_ok F ag ah ag.Places.length aj rfl aE aF aE.Starts.length aI rfl _ _ hc4 (ay.at hs) (br.at hs)) ?_; clear hf
 rintro _ w ⟨A5, n6, c7, rfl, hn8, hs1⟩ a hf
 have hs : St [] W w [.blk b1 55 [.int .i64 ag.Events, .slice ah ag.Places.length aj], .blk b2 66 [.int .i64 aE.Period, .slice aF aE.Starts.length aI], .row A5 n6 c7 2 1 (ints r3)] := hs.join hs1
 clear hs1
 obtain ⟨r9, hc10, hm⟩ := bind_some hm
 refine sCall hf rfl rfl rfl rfl (cap := []) rfl rfl en191 (slices_ContainsFunc_int64_ok F r3 A5 n6 c7 hn8 (fun x0 => impl_isKept_c1 F x0) 193 [] _ _ hc10 (hs.rd (i := 2) rfl) (fun x0 r w' hm_ hb => impl_isKept_c1_ok F x0 r w' hm_ ) en193) ?_; clear hf
 rintro _ w ⟨rfl, hs1⟩ a hf
 have hs : St [] W w [.blk b1 55 [.int .i64 ag.Events, .slice ah ag.Places.length aj], .blk b2 66 [.int .i64 aE.Period, .slice aF aE.Starts.length aI], .row A5 n6 c7 2 1 (ints r3)] := hs.ext hs1.below
 clear hs1
 refine sY hf hs rfl rfl rfl (Y_not rfl rfl) ?_; clear hf; intro a hf
 refine sY hf hs rfl rfl rfl (Y_assign rfl rfl) ?_; clear hf; intro a hf
 refine wpO_nil ?_
 obtain rfl := Option.some.inj hm
 refine wpL_ret (ret_tmp rfl hf rfl ?_)
 exact ⟨_, rfl, rfl, hs.sel [] (by decide)⟩

set_option maxRecDepth 100000 in
theorem impl_IsKept_ok (F : Nat) (ag : GEventGraph) (ah : Option Addr) (ax aj : Nat) (aC : ax = ag.Places.length) (aE : GTimetable) (aF : Option Addr) (bp aI : Nat) (bG : bp = aE.Starts.length) (r : Bool × Int) (W : World) (hm : impl_IsKept F ag aE = some r) (ay : Rd W ah ((recs GPlace.cells) ag.Places)) (br : Rd W aF (ints aE.Starts)) :
  Calls Try.prog 54 [.agg #[.int .i64 ag.Events, .slice ah ax aj], .agg #[.int .i64 aE.Period, .slice aF bp aI]].toArray W fun e w' => ∃ v, e = .returned v ∧ v = .tuple #[.bool r.1, .int .i64 r.2] ∧ St [] W w' [] := by
 subst aC
 subst bG
 unfold impl_IsKept at hm
 refine Calls.enter (N := 16) Try.func54 rfl rfl rfl (fun a hf => ?_)
 have hs := St.start W
 obtain ⟨w, hw_⟩ : ∃ w, w = W := ⟨W, rfl⟩
 clear hw_ w
 refine wpL_seq <| wpL_region ?_
 refine sBox hf hs rfl rfl rfl rfl rfl (cs := [.int .i64 ag.Events, .slice ah ag.Places.length aj]) rfl ?_; clear hf hs; intro a w b1 hs hf
 have hs : St [] W w [.blk b1 55 [.int .i64 ag.Events, .slice ah ag.Places.length aj]] := hs
 refine sBox hf hs rfl rfl rfl rfl rfl (cs := [.int .i64 aE.Period, .slice aF aE.Starts.length aI]) rfl ?_; clear hf hs; intro a w b2 hs hf
 have hs : St [] W w [.blk b1 55 [.int .i64 ag.Events, .slice ah ag.Places.length aj], .blk b2 66 [.int .i64 aE.Period, .slice aF aE.Starts.length aI]] := hs
 refine sY hf hs rfl rfl rfl (Y_assign rfl rfl) ?_; clear hf; intro a hf
 refine sY hf hs rfl rfl rfl (Y_assign rfl rfl) ?_; clear hf; intro a hf
 refine wpO_nil <| wpL_seq <| wpL_seq <| wpL_region ?_
 refine sY hf hs rfl rfl rfl (Y_load_blkS rfl rfl (i := 0) rfl ag55 ti55 rfl) ?_; clear hf; intro a hf
 refine sY hf hs rfl rfl rfl (Y_load_blkS rfl rfl (i := 1) rfl ag66 ti66 rfl) ?_; clear hf; intro a hf
 obtain ⟨r3, hc4, hm⟩ := bind_some hm
 refine sCall hf rfl rfl rfl rfl (cap := []) rfl rfl en125 (impl_checkTimetable_ok F ag ah ag.Places.length aj rfl aE aF aE.Starts.length aI rfl _ _ hc4 (ay.at hs) (br.at hs)) ?_; clear hf
 rintro _ w ⟨rfl, hs1⟩ a hf
 have hs : St [] W w [.blk b1 55 [.int .i64 ag.Events, .slice ah ag.Places.length aj], .blk b2 66 [.int .i64 aE.Period, .slice aF aE.Starts.length aI]] := hs.ext hs1.below
 clear hs1
 refine sY hf hs rfl rfl rfl (Y_assign rfl rfl) ?_; clear hf; intro a hf
 refine wpO_nil <| wpL_seq <| wpL_region ?_
 refine sY hf hs rfl rfl rfl (Y_move rfl rfl) ?_; clear hf; intro a hf
 refine sY hf hs rfl rfl rfl (Y_neq rfl rfl rfl) ?_; clear hf; intro a hf
 refine wpO_nil ?_
 refine wpL_cond hf rfl (fun hb5 => ?_) (fun hb5 => ?_)
 ·have hm := bif_t hm hb5
  refine wpL_seq <| wpL_region ?_
  refine sY hf hs rfl rfl rfl (Y_move rfl rfl) ?_; clear hf; intro a hf
  refine sY hf hs rfl rfl rfl (Y_assign rfl rfl) ?_; clear hf; intro a hf
  refine sY hf hs rfl rfl rfl (Y_assign rfl rfl) ?_; clear hf; intro a hf
  refine wpO_nil ?_
  obtain rfl := Option.some.inj hm
  refine wpL_ret (ret_tmp2 rfl hf rfl rfl ?_)
  exact ⟨_, rfl, rfl, hs.sel [] (by decide)⟩
 ·have hm := bif_f hm hb5
  refine wpL_skip <| wpL_seq <| wpL_region ?_
  refine sY hf hs rfl rfl rfl (Y_load_blkS rfl rfl (i := 0) rfl ag55 ti55 rfl) ?_; clear hf; intro a hf
  refine sY hf hs rfl rfl rfl (Y_load_blkS rfl rfl (i := 1) rfl ag66 ti66 rfl) ?_; clear hf; intro a hf
  obtain ⟨r6, hc7, hm⟩ := bind_some hm
  refine sCall hf rfl rfl rfl rfl (cap := []) rfl rfl en126 (impl_isKept_ok F ag ah ag.Places.length aj rfl aE aF aE.Starts.length aI rfl _ _ hc7 (ay.at hs) (br.at hs)) ?_; clear hf
  rintro _ w ⟨rfl, hs1⟩ a hf
  have hs : St [] W w [.blk b1 55 [.int .i64 ag.Events, .slice ah ag.Places.length aj], .blk b2 66 [.int .i64 aE.Period, .slice aF aE.Starts.length aI]] := hs.ext hs1.below
  clear hs1
  refine sY hf hs rfl rfl rfl (Y_assign rfl rfl) ?_; clear hf; intro a hf
  refine sY hf hs rfl rfl rfl (Y_assign rfl rfl) ?_; clear hf; intro a hf
  refine wpO_nil ?_
  obtain rfl := Option.some.inj hm
  refine wpL_ret (ret_tmp2 rfl hf rfl rfl ?_)
  exact ⟨_, rfl, rfl, hs.sel [] (by decide)⟩

set_option maxRecDepth 100000 in
theorem impl_matrixBy_ok (F : Nat) (bX : Int) (bM : Int) (bY : Int → Int → Option Int) (bR : FuncId) (bS : List Value) (r : List (List Int)) (W : World) (hm : impl_matrixBy F bX bM bY = some r) (cL : ∀ (x0 : Int) (x1 : Int) (r : Int) (w : World), bY x0 x1 = some r → Below W.heap.size W w → Calls Try.prog bR (([.int .i64 x0, .int .i64 x1] : List Value) ++ bS).toArray w fun e w' => ∃ v, e = .returned v ∧ v = .int .i64 r ∧ St [] w w' []) (cM : En Try.prog bR) :
  Calls Try.prog 111 [.int .i64 bX, .int .i64 bM, .func (.func bR) #[] bS.toArray].toArray W fun e w' => ∃ v, e = .returned v ∧ ∃ A641, ∃ n642, ∃ c643, ∃ vs645, v = .slice A641 n642 c643 ∧ n642 = r.length ∧ St [] W w' [.mat A641 n642 c643 28 2 vs645 r] := by
 unfold impl_matrixBy at hm
 refine Calls.enter (N := 43) Try.func111 rfl rfl rfl (fun a hf => ?_)
 have hs := St.start W
 obtain ⟨w, hw_⟩ : ∃ w, w = W := ⟨W, rfl⟩
 clear hw_ w
 refine wpL_seq <| wpL_region ?_
 refine sY hf hs rfl rfl rfl (Y_assign rfl rfl) ?_; clear hf; intro a hf
 refine wpO_nil <| wpL_seq <| wpL_region ?_
 refine sY hf hs rfl rfl rfl (Y_move rfl rfl) ?_; clear hf; intro a hf
 obtain ⟨ms3, hk2, hm⟩ := bind_some hm
 refine sMakeM 2 hf hs rfl rfl rfl rfl rfl hk2 el40 ti28 rfl ?_; clear hf hs; intro a w A1 vs4 hs hf
 have hs : St [] W w [.mat A1 ms3.length ms3.length 28 2 vs4 ms3] := hs
 refine sY hf hs rfl rfl rfl (Y_assign rfl rfl) ?_; clear hf; intro a hf
 refine wpO_nil <| wpL_seq <| wpL_seq <| wpL_region ?_
 refine sY hf hs rfl rfl rfl (Y_move rfl rfl) ?_; clear hf; intro a hf
 refine sY hf hs rfl rfl rfl (Y_lenH rfl rfl el40 rfl) ?_; clear hf; intro a hf
 refine sY hf hs rfl rfl rfl (Y_move rfl rfl) ?_; clear hf; intro a hf
 refine wpO_nil ?_
 obtain ⟨r484, hl485, hm⟩ := bind_some hm
 refine wpL_block (fun a w => ∃ ms478 : List (List Int), ∃ A479, ∃ n480, ∃ c481, ∃ vs483, ms478 = r484 ∧ n480 = ms478.length ∧ Fr a 43 [(7, .slice A479 n480 c481)] ∧ St [] W w [.mat A479 n480 c481 28 2 vs483 ms478]) ?_ ?_
 ·refine wpL_loop (fun n a w => ∃ ms318 : List (List Int), ∃ x324 : Int, ∃ A319, ∃ n320, ∃ c321, ∃ vs323, impl_matrixBy_L4 F bM bY ms3 n ms318 x324 = some r484 ∧ n320 = ms318.length ∧ Fr a 43 [(1, .int .i64 bM), (2, .func (.func bR) #[] bS.toArray), (7, .slice A319 n320 c321), (13, .int .i64 (ms3.length : Int)), (14, .int .i64 x324)] ∧ St [] W w [.mat A319 n320 c321 28 2 vs323 ms318]) F ?_ ?_ ?_
  ·exact ⟨ms3, 0, A1, ms3.length, ms3.length, vs4, hl485, rfl, (FrD.pick (FrD.pick (FrD.pick (FrD.pick (FrD.pick hf.none hf rfl) hf rfl) hf rfl) hf rfl) hf rfl), hs⟩
  ·rintro a w ⟨ms318, x324, A319, n320, c321, vs323, h0_, -, -, -⟩; simp [impl_matrixBy_L4] at h0_
  ·rintro n487 a w ⟨ms318, x324, A319, n320, c321, vs323, hm486, hn322, hf, hs⟩
   rw [impl_matrixBy_L4] at hm486
   refine wpL_seq <| wpL_region ?_
   refine sY hf hs rfl rfl rfl (Y_lss rfl rfl rfl) ?_; clear hf; intro a hf
   refine wpO_nil <| wpL_seq ?_
   refine wpL_cond hf rfl (fun hb488 => ?_) (fun hb488 => ?_)
   ·have hm486 := bif_t hm486 hb488
    refine wpL_skip <| wpL_seq <| wpL_block0 <| wpL_seq <| wpL_region ?_
    refine sY hf hs rfl rfl rfl (Y_move rfl rfl) ?_; clear hf; intro a hf
    refine sY hf hs rfl rfl rfl (Y_assign rfl rfl) ?_; clear hf; intro a hf
    refine wpO_nil <| wpL_seq <| wpL_region ?_
    refine sY hf hs rfl rfl rfl (Y_move rfl rfl) ?_; clear hf; intro a hf
    refine sY hf hs rfl rfl rfl (Y_move rfl rfl) ?_; clear hf; intro a hf
    refine sY hf hs rfl rfl rfl (Y_move rfl rfl) ?_; clear hf; intro a hf
    obtain ⟨xs491, hk490, hm486⟩ := bind_some hm486
    refine sMakeL (enc := ints) hf hs rfl rfl rfl rfl rfl hk490 el28 ti2 rfl ints_made ?_; clear hf hs; intro a w A489 hs hf
    have hs : St [] W w [.mat A319 n320 c321 28 2 vs323 ms318, .row A489 xs491.length xs491.length 2 1 (ints xs491)] := hs
    obtain ⟨q492, hi493, hm486⟩ := bind_some hm486
    obtain ⟨hi493a, hi493b, hi493q⟩ := idx_some hi493
    obtain ⟨A494, c495, hv496⟩ := hs.matRow (i := 0) rfl hi493q
    refine sY hf hs rfl rfl rfl (Y_index rfl rfl rfl el40 ti28 (Rd.isAt (hs.rdV (i := 0) rfl) hv496) hi493a (ltn hn322 hi493b)) ?_; clear hf; intro a hf
    obtain ⟨ms497, hu498, hm486⟩ := bind_some hm486
    refine sStoreRowM (i := 0) (j := 1) (k := x324) hf hs rfl rfl rfl rfl rfl rfl rfl (by decide) rfl hu498 ti28 ?_; clear hs; intro w vs499 hs
    have hs : St [] W w [.mat A319 n320 c321 28 2 vs499 ms497] := hs
    refine wpO_nil <| wpL_seq <| wpL_region ?_
    refine sY hf hs rfl rfl rfl (Y_move rfl rfl) ?_; clear hf; intro a hf
    refine sY hf hs rfl rfl rfl (Y_move rfl rfl) ?_; clear hf; intro a hf
    obtain ⟨q500, hi501, hm486⟩ := bind_some hm486
    obtain ⟨hi501a, hi501b, hi501q⟩ := idx_some hi501
    obtain ⟨A502, c503, hv504⟩ := hs.matRow (i := 0) rfl hi501q
    refine sY hf hs rfl rfl rfl (Y_index rfl rfl rfl el40 ti28 (Rd.isAt (hs.rdV (i := 0) rfl) hv504) hi501a (ltn ((hn322).trans (upd_len hu498).symm) hi501b)) ?_; clear hf; intro a hf
    refine sY hf hs rfl rfl rfl (Y_load_rd rfl rfl (fun w hs => hs.rdV (i := 0) rfl) (at1 hv504) ag28) ?_; clear hf; intro a hf
    refine sY hf hs rfl rfl rfl (Y_lenH rfl rfl el28 rfl) ?_; clear hf; intro a hf
    refine sY hf hs rfl rfl rfl (Y_move rfl rfl) ?_; clear hf; intro a hf
    refine wpO_nil ?_
    obtain ⟨r606, hl607, hm486⟩ := bind_some hm486
    refine wpL_block (fun a w => ∃ ms604 : List (List Int), ms604 = r606 ∧ n320 = ms604.length ∧ Fr a 43 [(1, .int .i64 bM), (2, .func (.func bR) #[] bS.toArray), (7, .slice A319 n320 c321), (13, .int .i64 (ms3.length : Int)), (14, .int .i64 x324)] ∧ St [] W w [.mat A319 n320 c321 28 2 vs499 ms604]) ?_ ?_
    ·refine wpL_loop (fun n a w => ∃ ms570 : List (List Int), ∃ x572 : Int, impl_matrixBy_L5 F bY x324 q500 n ms570 x572 = some r606 ∧ n320 = ms570.length ∧ Fr a 43 [(1, .int .i64 bM), (2, .func (.func bR) #[] bS.toArray), (7, .slice A319 n320 c321), (8, .int .i64 x324), (13, .int .i64 (ms3.length : Int)), (14, .int .i64 x324), (26, .int .i64 (q500.length : Int)), (27, .int .i64 x572)] ∧ St [] W w [.mat A319 n320 c321 28 2 vs499 ms570]) F ?_ ?_ ?_
     ·exact ⟨ms497, 0, hl607, ((hn322).trans (upd_len hu498).symm), (FrD.pick (FrD.pick (FrD.pick (FrD.pick (FrD.pick (FrD.pick (FrD.pick (FrD.pick hf.none hf rfl) hf rfl) hf rfl) hf rfl) hf rfl) hf rfl) hf rfl) hf rfl), hs⟩
     ·rintro a w ⟨ms570, x572, h0_, -, -, -⟩; simp [impl_matrixBy_L5] at h0_
     ·rintro n609 a w ⟨ms570, x572, hm608, hn571, hf, hs⟩
      rw [impl_matrixBy_L5] at hm608
      refine wpL_seq <| wpL_region ?_
      refine sY hf hs rfl rfl rfl (Y_lss rfl rfl rfl) ?_; clear hf; intro a hf
      refine wpO_nil <| wpL_seq ?_
      refine wpL_cond hf rfl (fun hb610 => ?_) (fun hb610 => ?_)
      ·have hm608 := bif_t hm608 hb610
       refine wpL_skip <| wpL_seq <| wpL_block0 <| wpL_seq <| wpL_region ?_
       refine sY hf hs rfl rfl rfl (Y_move rfl rfl) ?_; clear hf; intro a hf
       refine sY hf hs rfl rfl rfl (Y_assign rfl rfl) ?_; clear hf; intro a hf
       refine wpO_nil ?_
       refine wpL_drawM [.mat A319 n320 c321 28 2 vs499 ms570] [10] (by kernel_rfl) hs ?_; clear hs; intro w hs
       have hs0 : St [] W w [.mat A319 n320 c321 28 2 vs499 ms570] := hs
       refine mYp (i := 0) rfl (by kernel_rfl) (by kernel_rfl) hf rfl rfl rfl (fun _ => Y_move rfl rfl) ?_; clear hf; intro a hf
       refine mYp (i := 1) rfl (by kernel_rfl) (by kernel_rfl) hf rfl rfl rfl (fun _ => Y_move rfl rfl) ?_; clear hf; intro a hf
       obtain ⟨q626, hi627, hm608⟩ := bind_some hm608
       obtain ⟨hi627a, hi627b, hi627q⟩ := idx_some hi627
       obtain ⟨A628, c629, hv630⟩ := hs.matRow (i := 0) rfl hi627q
       refine mYp (i := 2) rfl (by kernel_rfl) (by kernel_rfl) hf rfl rfl rfl (fun _ => Y_index rfl rfl rfl el40 ti28 (Rd.isAt (hs.rdV (i := 0) rfl) hv630) hi627a (ltn hn571 hi627b)) ?_; clear hf; intro a hf
       refine mY (i := 3) [[]] rfl (by kernel_rfl) (by kernel_rfl) hf hs0 rfl rfl rfl (Y_load_rd rfl rfl (fun w hs => hs.rdV (i := 0) rfl) (at1 hv630) ag28) ?_; clear hf; intro a hf
       refine mYp (i := 4) rfl (by kernel_rfl) (by kernel_rfl) hf rfl rfl rfl (fun _ => Y_move rfl rfl) ?_; clear hf; intro a hf
       refine mYp (i := 5) rfl (by kernel_rfl) (by kernel_rfl) hf rfl rfl rfl (fun _ => Y_move rfl rfl) ?_; clear hf; intro a hf
       refine mYp (i := 6) rfl (by kernel_rfl) (by kernel_rfl) hf rfl rfl rfl (fun _ => Y_move rfl rfl) ?_; clear hf; intro a hf
       refine mYp (i := 7) rfl (by kernel_rfl) (by kernel_rfl) hf rfl rfl rfl (fun _ => Y_move rfl rfl) ?_; clear hf; intro a hf
       refine mRun (i := 8) rfl (by kernel_rfl) ?_
       obtain ⟨r631, hc632, hm608⟩ := bind_some hm608
       refine sCall hf rfl rfl rfl rfl (cap := bS) rfl rfl cM (cL x324 x572 _ _ hc632 hs.below) ?_; clear hf; rintro _ w ⟨rfl, hs1⟩ a hf; have hs := hs.ext hs1.below; clear hs1
       have hs0 : St [] W w [.mat A319 n320 c321 28 2 vs499 ms570] := hs
       refine wpO_nil ⟨Or.inr (fun _ => hs0), ?_⟩
       obtain ⟨q633, hi634, hm608⟩ := bind_some hm608
       obtain ⟨hi634a, hi634b, hi634q⟩ := idx_some hi634
       refine mYp (i := 9) rfl (by kernel_rfl) (by kernel_rfl) hf rfl rfl rfl (fun _ => Y_index rfl rfl rfl el28 ti2 (Rd.isAt (hs.rdRow (i := 0) rfl ⟨hi627q, hv630⟩) (at1 (ints_at hi634q))) hi634a hi634b) ?_; clear hf; intro a hf
       refine mRun (i := 10) rfl (by kernel_rfl) ?_
       obtain ⟨xs635, hu637, hm608⟩ := bind_some hm608
       obtain ⟨ms636, hu638, hm608⟩ := bind_some hm608
       refine sStoreM (i := 0) (k := x324) hf hs rfl rfl rfl rfl rfl rfl hi627q hv630 rfl hu637 hu638 ti2 ?_; clear hs; intro w hs
       obtain ⟨hq639, hv640⟩ := rowUpd hu637 hu638 hv630
       have hs : St [] W w [.mat A319 n320 c321 28 2 vs499 ms636] := hs
       refine wpO_nil ⟨Or.inl (by decide), ?_⟩
       refine mDone (by kernel_rfl) ?_
       clear hs0
       refine wpL_nil (Qb_normal ?_)
       refine wpL_region ?_
       refine sY hf hs rfl rfl rfl (Y_add rfl rfl rfl) ?_; clear hf; intro a hf
       refine sY hf hs rfl rfl rfl (Y_move rfl rfl) ?_; clear hf; intro a hf
       refine wpO_nil ?_
       refine wpL_nil (Ql_normal ?_)
       exact ⟨ms636, (IntKind.i64.wrap (x572 + 1)), hm608, ((hn571).trans (upd_len hu638).symm), (FrD.pick (FrD.pick (FrD.pick (FrD.pick (FrD.pick (FrD.pick (FrD.pick (FrD.pick hf.none hf rfl) hf rfl) hf rfl) hf rfl) hf rfl) hf rfl) hf rfl) hf rfl), hs⟩
      ·have hm608 := bif_f hm608 hb610
       refine wpL_exit (Ql_exit (Qb_exit ?_))
       exact ⟨ms570, Option.some.inj hm608, hn571, (FrD.pick (FrD.pick (FrD.pick (FrD.pick (FrD.pick hf.none hf rfl) hf rfl) hf rfl) hf rfl) hf rfl), hs⟩
    ·rintro a w ⟨ms604, hr_, hn605, hf, hs⟩
     subst hr_
     try dsimp only at hm486
     refine wpL_nil (Qb_normal ?_)
     refine wpL_region ?_
     refine sY hf hs rfl rfl rfl (Y_add rfl rfl rfl) ?_; clear hf; intro a hf
     refine sY hf hs rfl rfl rfl (Y_move rfl rfl) ?_; clear hf; intro a hf
     refine wpO_nil ?_
     refine wpL_nil (Ql_normal ?_)
     exact ⟨ms604, (IntKind.i64.wrap (x324 + 1)), A319, n320, c321, vs499, hm486, hn605, (FrD.pick (FrD.pick (FrD.pick (FrD.pick (FrD.pick hf.none hf rfl) hf rfl) hf rfl) hf rfl) hf rfl), hs⟩
   ·have hm486 := bif_f hm486 hb488
    refine wpL_exit (Ql_exit (Qb_exit ?_))
    exact ⟨ms318, A319, n320, c321, vs323, Option.some.inj hm486, hn322, (FrD.pick hf.none hf rfl), hs⟩
 ·rintro a w ⟨ms478, A479, n480, c481, vs483, hr_, hn482, hf, hs⟩
  subst hr_
  try dsimp only at hm
  refine wpL_seq <| wpL_region ?_
  refine sY hf hs rfl rfl rfl (Y_move rfl rfl) ?_; clear hf; intro a hf
  refine sY hf hs rfl rfl rfl (Y_assign rfl rfl) ?_; clear hf; intro a hf
  refine wpO_nil ?_
  obtain rfl := Option.some.inj hm
  refine wpL_ret (ret_tmp rfl hf rfl ?_)
  exact ⟨_, rfl, A479, n480, c481, vs483, rfl, hn482, hs⟩

set_option maxRecDepth 100000 in
theorem impl_bottomMatrix_c1_ok (F : Nat) (p0 : Int) (p1 : Int) (r : Int) (W : World) (hm : impl_bottomMatrix_c1 F p0 p1 = some r) :
  Calls Try.prog 221 [.int .i64 p0, .int .i64 p1].toArray W fun e w' => ∃ v, e = .returned v ∧ v = .int .i64 r ∧ St [] W w' [] := by
 unfold impl_bottomMatrix_c1 at hm
 refine Calls.enter (N := 5) Try.func221 rfl rfl rfl (fun a hf => ?_)
 have hs := St.start W
 obtain ⟨w, hw_⟩ : ∃ w, w = W := ⟨W, rfl⟩
 clear hw_ w
 refine wpL_seq <| wpL_region ?_
 refine sY hf hs rfl rfl rfl (Y_assign rfl rfl) ?_; clear hf; intro a hf
 refine wpO_nil <| wpL_seq <| wpL_region ?_
 refine sY hf hs rfl rfl rfl (Y_assign rfl rfl) ?_; clear hf; intro a hf
 refine wpO_nil ?_
 obtain rfl := Option.some.inj hm
 refine wpL_ret (ret_tmp rfl hf rfl ?_)
 exact ⟨_, rfl, rfl, hs⟩

set_option maxRecDepth 100000 in
theorem impl_bottomMatrix_ok (F : Nat) (bX : Int) (bM : Int) (r : List (List Int)) (W : World) (hm : impl_bottomMatrix F bX bM = some r) :
  Calls Try.prog 200 [.int .i64 bX, .int .i64 bM].toArray W fun e w' => ∃ v, e = .returned v ∧ ∃ A8, ∃ n9, ∃ c10, ∃ vs12, v = .slice A8 n9 c10 ∧ n9 = r.length ∧ St [] W w' [.mat A8 n9 c10 28 2 vs12 r] := by
 unfold impl_bottomMatrix at hm
 refine Calls.enter (N := 8) Try.func200 rfl rfl rfl (fun a hf => ?_)
 have hs := St.start W
 obtain ⟨w, hw_⟩ : ∃ w, w = W := ⟨W, rfl⟩
 clear hw_ w
 refine wpL_seq <| wpL_region ?_
 refine sY hf hs rfl rfl rfl (Y_assign rfl rfl) ?_; clear hf; intro a hf
 refine wpO_nil <| wpL_seq <| wpL_region ?_
 refine sY hf hs rfl rfl rfl (Y_move rfl rfl) ?_; clear hf; intro a hf
 refine sY hf hs rfl rfl rfl (Y_move rfl rfl) ?_; clear hf; intro a hf
 obtain ⟨r1, hc2, hm⟩ := bind_some hm
 refine sCall hf rfl rfl rfl rfl (cap := []) rfl rfl en111 (impl_matrixBy_ok F bX bM (fun x0 x1 => impl_bottomMatrix_c1 F x0 x1) 221 [] _ _ hc2 (fun x0 x1 r w' hm_ hb => impl_bottomMatrix_c1_ok F x0 x1 r w' hm_ ) en221) ?_; clear hf
 rintro _ w ⟨A3, n4, c5, vs7, rfl, hn6, hs1⟩ a hf
 have hs : St [] W w [.mat A3 n4 c5 28 2 vs7 r1] := hs.join hs1
 clear hs1
 refine sY hf hs rfl rfl rfl (Y_assign rfl rfl) ?_; clear hf; intro a hf
 refine wpO_nil ?_
 obtain rfl := Option.some.inj hm
 refine wpL_ret (ret_tmp rfl hf rfl ?_)
 exact ⟨_, rfl, A3, n4, c5, vs7, rfl, hn6, hs⟩

set_option maxRecDepth 100000 in
theorem impl_weightMatrix_ok (F : Nat) (ag : GEventGraph) (ah : Option Addr) (ax aj : Nat) (aC : ax = ag.Places.length) (aA : GRatio) (r : List (List Int)) (W : World) (hm : impl_weightMatrix F ag aA = some r) (ay : Rd W ah ((recs GPlace.cells) ag.Places)) :
  Calls Try.prog 194 [.agg #[.int .i64 ag.Events, .slice ah ax aj], .agg #[.int .i64 aA.Num, .int .i64 aA.Den]].toArray W fun e w' => ∃ v, e = .returned v ∧ ∃ A214, ∃ n215, ∃ c216, ∃ vs218, v = .slice A214 n215 c216 ∧ n215 = r.length ∧ St [] W w' [.mat A214 n215 c216 28 2 vs218 r] := by
 subst aC
 unfold impl_weightMatrix at hm
 refine Calls.enter (N := 43) Try.func194 rfl rfl rfl (fun a hf => ?_)
 have hs := St.start W
 obtain ⟨w, hw_⟩ : ∃ w, w = W := ⟨W, rfl⟩
 clear hw_ w
 refine wpL_seq <| wpL_region ?_
 refine sBox hf hs rfl rfl rfl rfl rfl (cs := [.int .i64 ag.Events, .slice ah ag.Places.length aj]) rfl ?_; clear hf hs; intro a w b1 hs hf
 have hs : St [] W w [.blk b1 55 [.int .i64 ag.Events, .slice ah ag.Places.length aj]] := hs
 refine sBox hf hs rfl rfl rfl rfl rfl (cs := [.int .i64 aA.Num, .int .i64 aA.Den]) rfl ?_; clear hf hs; intro a w b2 hs hf
 have hs : St [] W w [.blk b1 55 [.int .i64 ag.Events, .slice ah ag.Places.length aj], .blk b2 129 [.int .i64 aA.Num, .int .i64 aA.Den]] := hs
 refine sY hf hs rfl rfl rfl (Y_assign rfl rfl) ?_; clear hf; intro a hf
 refine wpO_nil <| wpL_seq <| wpL_region ?_
 refine sY hf hs rfl rfl rfl (Y_fieldAddr rfl rfl fo55_0) ?_; clear hf; intro a hf
 refine sY hf hs rfl rfl rfl (Y_load_blk rfl rfl (i := 0) rfl rfl ag2) ?_; clear hf; intro a hf
 refine sY hf hs rfl rfl rfl (Y_fieldAddr rfl rfl fo55_0) ?_; clear hf; intro a hf
 refine sY hf hs rfl rfl rfl (Y_load_blk rfl rfl (i := 0) rfl rfl ag2) ?_; clear hf; intro a hf
 obtain ⟨r3, hc4, hm⟩ := bind_some hm
 refine sCall hf rfl rfl rfl rfl (cap := []) rfl rfl en200 (impl_bottomMatrix_ok F ag.Events ag.Events _ _ hc4) ?_; clear hf
 rintro _ w ⟨A5, n6, c7, vs9, rfl, hn8, hs1⟩ a hf
 have hs : St [] W w [.blk b1 55 [.int .i64 ag.Events, .slice ah ag.Places.length aj], .blk b2 129 [.int .i64 aA.Num, .int .i64 aA.Den], .mat A5 n6 c7 28 2 vs9 r3] := hs.join hs1
 clear hs1
 refine sY hf hs rfl rfl rfl (Y_assign rfl rfl) ?_; clear hf; intro a hf
 refine wpO_nil <| wpL_seq <| wpL_seq <| wpL_region ?_
 refine sY hf hs rfl rfl rfl (Y_fieldAddr rfl rfl fo55_1) ?_; clear hf; intro a hf
 refine sY hf hs rfl rfl rfl (Y_load_blk rfl rfl (i := 0) rfl rfl ag53) ?_; clear hf; intro a hf
 refine sY hf hs rfl rfl rfl (Y_lenH rfl rfl el53 rfl) ?_; clear hf; intro a hf
 refine sY hf hs rfl rfl rfl (Y_move rfl rfl) ?_; clear hf; intro a hf
 refine wpO_nil ?_
 obtain ⟨r162, hl163, hm⟩ := bind_some hm
 refine wpL_block (fun a w => ∃ ms160 : List (List Int), ms160 = r162 ∧ n6 = ms160.length ∧ Fr a 43 [(5, .slice A5 n6 c7)] ∧ St [] W w [.mat A5 n6 c7 28 2 vs9 ms160]) ?_ ?_
 ·refine wpL_loop (fun n a w => ∃ ms109 : List (List Int), ∃ x111 : Int, impl_weightMatrix_L1 F ag aA n ms109 x111 = some r162 ∧ n6 = ms109.length ∧ Fr a 43 [(3, .pointer (some ⟨b2, 0, none⟩)), (5, .slice A5 n6 c7), (14, .slice ah ag.Places.length aj), (15, .int .i64 (ag.Places.length : Int)), (16, .int .i64 x111)] ∧ St [] W w [.blk b2 129 [.int .i64 aA.Num, .int .i64 aA.Den], .mat A5 n6 c7 28 2 vs9 ms109]) F ?_ ?_ ?_
  ·exact ⟨r3, 0, hl163, hn8, (FrD.pick (FrD.pick (FrD.pick (FrD.pick (FrD.pick hf.none hf rfl) hf rfl) hf rfl) hf rfl) hf rfl), hs.sel [1, 2] (by decide)⟩
  ·rintro a w ⟨ms109, x111, h0_, -, -, -⟩; simp [impl_weightMatrix_L1] at h0_
  ·rintro n165 a w ⟨ms109, x111, hm164, hn110, hf, hs⟩
   rw [impl_weightMatrix_L1] at hm164
   refine wpL_seq <| wpL_region ?_
   refine sY hf hs rfl rfl rfl (Y_lss rfl rfl rfl) ?_; clear hf; intro a hf
   refine wpO_nil <| wpL_seq ?_
   refine wpL_cond hf rfl (fun hb166 => ?_) (fun hb166 => ?_)
   ·have hm164 := bif_t hm164 hb166
    refine wpL_skip <| wpL_seq <| wpL_block0 <| wpL_seq <| wpL_region ?_
    obtain ⟨q167, hi168, hm164⟩ := bind_some hm164
    obtain ⟨hi168a, hi168b, hi168q⟩ := idx_some hi168
    refine sY hf hs rfl rfl rfl (Y_index rfl rfl rfl el53 ti64 (Rd.isAt (ay.at hs) (recs_at (s := 4) GPlace.len hi168q (j := 0) rfl)) hi168a hi168b) ?_; clear hf; intro a hf
    refine sY hf hs rfl rfl rfl (Y_load_rdS rfl rfl (us := [.int .i64 q167.From, .int .i64 q167.To, .int .i64 q167.Delay, .int .i64 q167.Tokens]) (fun w hs => ay.at hs) (fun j u hj => recs_at (s := 4) GPlace.len hi168q hj) (Nat.succ_pos _) ag64 ti64 rfl) ?_; clear hf; intro a hf
    refine sAlloc hf hs rfl rfl rfl rfl ti64 ?_; clear hf hs; intro a w b169 hs hf
    have hs : St [] W w [.blk b2 129 [.int .i64 aA.Num, .int .i64 aA.Den], .mat A5 n6 c7 28 2 vs9 ms109, .blk b169 64 [.int .i64 0, .int .i64 0, .int .i64 0, .int .i64 0]] := hs
    refine sStore (i := 2) (us := [.int .i64 q167.From, .int .i64 q167.To, .int .i64 q167.Delay, .int .i64 q167.Tokens]) hf hs rfl rfl rfl rfl rfl rfl ti64 rfl rfl rfl (Nat.le_of_ble_eq_true rfl) rfl ?_; clear hs; intro w hs
    have hs : St [] W w [.blk b2 129 [.int .i64 aA.Num, .int .i64 aA.Den], .mat A5 n6 c7 28 2 vs9 ms109, .blk b169 64 [.int .i64 q167.From, .int .i64 q167.To, .int .i64 q167.Delay, .int .i64 q167.Tokens]] := hs
    refine wpO_nil ?_
    refine wpL_drawM [.blk b2 129 [.int .i64 aA.Num, .int .i64 aA.Den], .mat A5 n6 c7 28 2 vs9 ms109, .blk b169 64 [.int .i64 q167.From, .int .i64 q167.To, .int .i64 q167.Delay, .int .i64 q167.Tokens]] [21] (by kernel_rfl) hs ?_; clear hs; intro w hs
    have hs0 : St [] W w [.blk b2 129 [.int .i64 aA.Num, .int .i64 aA.Den], .mat A5 n6 c7 28 2 vs9 ms109, .blk b169 64 [.int .i64 q167.From, .int .i64 q167.To, .int .i64 q167.Delay, .int .i64 q167.Tokens]] := hs
    refine mYp (i := 0) rfl (by kernel_rfl) (by kernel_rfl) hf rfl rfl rfl (fun _ => Y_move rfl rfl) ?_; clear hf; intro a hf
    refine mYp (i := 1) rfl (by kernel_rfl) (by kernel_rfl) hf rfl rfl rfl (fun _ => Y_fieldAddr rfl rfl fo64_1) ?_; clear hf; intro a hf
    refine mY (i := 2) [[]] rfl (by kernel_rfl) (by kernel_rfl) hf hs0 rfl rfl rfl (Y_load_blk rfl rfl (i := 2) rfl rfl ag2) ?_; clear hf; intro a hf
    obtain ⟨q192, hi193, hm164⟩ := bind_some hm164
    obtain ⟨hi193a, hi193b, hi193q⟩ := idx_some hi193
    obtain ⟨A194, c195, hv196⟩ := hs.matRow (i := 1) rfl hi193q
    refine mYp (i := 3) rfl (by kernel_rfl) (by kernel_rfl) hf rfl rfl rfl (fun _ => Y_index rfl rfl rfl el40 ti28 (Rd.isAt (hs.rdV (i := 1) rfl) hv196) hi193a (ltn hn110 hi193b)) ?_; clear hf; intro a hf
    refine mY (i := 4) [[]] rfl (by kernel_rfl) (by kernel_rfl) hf hs0 rfl rfl rfl (Y_load_rd rfl rfl (fun w hs => hs.rdV (i := 1) rfl) (at1 hv196) ag28) ?_; clear hf; intro a hf
    refine mYp (i := 5) rfl (by kernel_rfl) (by kernel_rfl) hf rfl rfl rfl (fun _ => Y_fieldAddr rfl rfl fo64_0) ?_; clear hf; intro a hf
    refine mY (i := 6) [[]] rfl (by kernel_rfl) (by kernel_rfl) hf hs0 rfl rfl rfl (Y_load_blk rfl rfl (i := 2) rfl rfl ag2) ?_; clear hf; intro a hf
    refine mYp (i := 7) rfl (by kernel_rfl) (by kernel_rfl) hf rfl rfl rfl (fun _ => Y_move rfl rfl) ?_; clear hf; intro a hf
    refine mYp (i := 8) rfl (by kernel_rfl) (by kernel_rfl) hf rfl rfl rfl (fun _ => Y_fieldAddr rfl rfl fo64_1) ?_; clear hf; intro a hf
    refine mY (i := 9) [[]] rfl (by kernel_rfl) (by kernel_rfl) hf hs0 rfl rfl rfl (Y_load_blk rfl rfl (i := 2) rfl rfl ag2) ?_; clear hf; intro a hf
    obtain ⟨q197, hi198, hm164⟩ := bind_some hm164
    obtain ⟨hi198a, hi198b, hi198q⟩ := idx_some hi198
    obtain ⟨A199, c200, hv201⟩ := hs.matRow (i := 1) rfl hi198q
    refine mYp (i := 10) rfl (by kernel_rfl) (by kernel_rfl) hf rfl rfl rfl (fun _ => Y_index rfl rfl rfl el40 ti28 (Rd.isAt (hs.rdV (i := 1) rfl) hv201) hi198a (ltn hn110 hi198b)) ?_; clear hf; intro a hf
    refine mY (i := 11) [[]] rfl (by kernel_rfl) (by kernel_rfl) hf hs0 rfl rfl rfl (Y_load_rd rfl rfl (fun w hs => hs.rdV (i := 1) rfl) (at1 hv201) ag28) ?_; clear hf; intro a hf
    refine mYp (i := 12) rfl (by kernel_rfl) (by kernel_rfl) hf rfl rfl rfl (fun _ => Y_fieldAddr rfl rfl fo64_0) ?_; clear hf; intro a hf
    refine mY (i := 13) [[]] rfl (by kernel_rfl) (by kernel_rfl) hf hs0 rfl rfl rfl (Y_load_blk rfl rfl (i := 2) rfl rfl ag2) ?_; clear hf; intro a hf
    obtain ⟨q202, hi203, hm164⟩ := bind_some hm164
    obtain ⟨hi203a, hi203b, hi203q⟩ := idx_some hi203
    refine mYp (i := 14) rfl (by kernel_rfl) (by kernel_rfl) hf rfl rfl rfl (fun _ => Y_index rfl rfl rfl el28 ti2 (Rd.isAt (hs.rdRow (i := 1) rfl ⟨hi198q, hv201⟩) (at1 (ints_at hi203q))) hi203a hi203b) ?_; clear hf; intro a hf
    refine mY (i := 15) [[]] rfl (by kernel_rfl) (by kernel_rfl) hf hs0 rfl rfl rfl (Y_load_rd rfl rfl (fun w hs => hs.rdRow (i := 1) rfl ⟨hi198q, hv201⟩) (at1 (ints_at hi203q)) ag2) ?_; clear hf; intro a hf
    refine mY (i := 16) [[]] rfl (by kernel_rfl) (by kernel_rfl) hf hs0 rfl rfl rfl (Y_load_blkS rfl rfl (i := 2) rfl ag64 ti64 rfl) ?_; clear hf; intro a hf
    refine mY (i := 17) [[]] rfl (by kernel_rfl) (by kernel_rfl) hf hs0 rfl rfl rfl (Y_load_blkS rfl rfl (i := 0) rfl ag129 ti129 rfl) ?_; clear hf; intro a hf
    refine mRun (i := 18) rfl (by kernel_rfl) ?_
    obtain ⟨r204, hc205, hm164⟩ := bind_some hm164
    refine sCall hf rfl rfl rfl rfl (cap := []) rfl rfl en188 (impl_placeWeight_ok F q167 aA _ _ hc205) ?_; clear hf
    rintro _ w ⟨rfl, hs1⟩ a hf
    have hs : St [] W w [.blk b2 129 [.int .i64 aA.Num, .int .i64 aA.Den], .mat A5 n6 c7 28 2 vs9 ms109, .blk b169 64 [.int .i64 q167.From, .int .i64 q167.To, .int .i64 q167.Delay, .int .i64 q167.Tokens]] := hs.ext hs1.below
    clear hs1
    have hs0 : St [] W w [.blk b2 129 [.int .i64 aA.Num, .int .i64 aA.Den], .mat A5 n6 c7 28 2 vs9 ms109, .blk b169 64 [.int .i64 q167.From, .int .i64 q167.To, .int .i64 q167.Delay, .int .i64 q167.Tokens]] := hs
    refine wpO_nil ⟨Or.inr (fun _ => hs0), ?_⟩
    refine mYp (i := 19) rfl (by kernel_rfl) (by kernel_rfl) hf rfl rfl rfl (fun _ => Y_max rfl rfl rfl) ?_; clear hf; intro a hf
    obtain ⟨q206, hi207, hm164⟩ := bind_some hm164
    obtain ⟨hi207a, hi207b, hi207q⟩ := idx_some hi207
    refine mYp (i := 20) rfl (by kernel_rfl) (by kernel_rfl) hf rfl rfl rfl (fun _ => Y_index rfl rfl rfl el28 ti2 (Rd.isAt (hs.rdRow (i := 1) rfl ⟨hi193q, hv196⟩) (at1 (ints_at hi207q))) hi207a hi207b) ?_; clear hf; intro a hf
    refine mRun (i := 21) rfl (by kernel_rfl) ?_
    obtain ⟨xs208, hu210, hm164⟩ := bind_some hm164
    obtain ⟨ms209, hu211, hm164⟩ := bind_some hm164
    refine sStoreM (i := 1) (k := q167.To) hf hs rfl rfl rfl rfl rfl rfl hi193q hv196 rfl hu210 hu211 ti2 ?_; clear hs; intro w hs
    obtain ⟨hq212, hv213⟩ := rowUpd hu210 hu211 hv196
    have hs : St [] W w [.blk b2 129 [.int .i64 aA.Num, .int .i64 aA.Den], .mat A5 n6 c7 28 2 vs9 ms209, .blk b169 64 [.int .i64 q167.From, .int .i64 q167.To, .int .i64 q167.Delay, .int .i64 q167.Tokens]] := hs
    refine wpO_nil ⟨Or.inl (by decide), ?_⟩
    refine mDone (by kernel_rfl) ?_
    clear hs0
    refine wpL_nil (Qb_normal ?_)
    refine wpL_region ?_
    refine sY hf hs rfl rfl rfl (Y_add rfl rfl rfl) ?_; clear hf; intro a hf
    refine sY hf hs rfl rfl rfl (Y_move rfl rfl) ?_; clear hf; intro a hf
    refine wpO_nil ?_
    refine wpL_nil (Ql_normal ?_)
    exact ⟨ms209, (IntKind.i64.wrap (x111 + 1)), hm164, ((hn110).trans (upd_len hu211).symm), (FrD.pick (FrD.pick (FrD.pick (FrD.pick (FrD.pick hf.none hf rfl) hf rfl) hf rfl) hf rfl) hf rfl), hs.sel [0, 1] (by decide)⟩
   ·have hm164 := bif_f hm164 hb166
    refine wpL_exit (Ql_exit (Qb_exit ?_))
    exact ⟨ms109, Option.some.inj hm164, hn110, (FrD.pick hf.none hf rfl), hs.sel [1] (by decide)⟩
 ·rintro a w ⟨ms160, hr_, hn161, hf, hs⟩
  subst hr_
  try dsimp only at hm
  refine wpL_seq <| wpL_region ?_
  refine sY hf hs rfl rfl rfl (Y_move rfl rfl) ?_; clear hf; intro a hf
  refine sY hf hs rfl rfl rfl (Y_assign rfl rfl) ?_; clear hf; intro a hf
  refine wpO_nil ?_
  obtain rfl := Option.some.inj hm
  refine wpL_ret (ret_tmp rfl hf rfl ?_)
  exact ⟨_, rfl, A5, n6, c7, vs9, rfl, hn161, hs⟩

set_option maxRecDepth 100000 in
theorem impl_unitMatrix_c1_ok (F : Nat) (cG : Int) (cH : Int) (r : Int) (W : World) (hm : impl_unitMatrix_c1 F cG cH = some r) :
  Calls Try.prog 158 [.int .i64 cG, .int .i64 cH].toArray W fun e w' => ∃ v, e = .returned v ∧ v = .int .i64 r ∧ St [] W w' [] := by
 unfold impl_unitMatrix_c1 at hm
 refine Calls.enter (N := 8) Try.func158 rfl rfl rfl (fun a hf => ?_)
 have hs := St.start W
 obtain ⟨w, hw_⟩ : ∃ w, w = W := ⟨W, rfl⟩
 clear hw_ w
 refine wpL_seq <| wpL_region ?_
 refine sY hf hs rfl rfl rfl (Y_assign rfl rfl) ?_; clear hf; intro a hf
 refine wpO_nil <| wpL_seq <| wpL_seq <| wpL_region ?_
 refine sY hf hs rfl rfl rfl (Y_move rfl rfl) ?_; clear hf; intro a hf
 refine sY hf hs rfl rfl rfl (Y_move rfl rfl) ?_; clear hf; intro a hf
 refine sY hf hs rfl rfl rfl (Y_eql rfl rfl rfl) ?_; clear hf; intro a hf
 refine wpO_nil ?_
 refine wpL_cond hf rfl (fun hb1 => ?_) (fun hb1 => ?_)
 ·have hm := bif_t hm hb1
  refine wpL_seq <| wpL_region ?_
  refine sY hf hs rfl rfl rfl (Y_assign rfl rfl) ?_; clear hf; intro a hf
  refine wpO_nil ?_
  obtain rfl := Option.some.inj hm
  refine wpL_ret (ret_tmp rfl hf rfl ?_)
  exact ⟨_, rfl, rfl, hs⟩
 ·have hm := bif_f hm hb1
  refine wpL_skip <| wpL_seq <| wpL_region ?_
  refine sY hf hs rfl rfl rfl (Y_assign rfl rfl) ?_; clear hf; intro a hf
  refine wpO_nil ?_
  obtain rfl := Option.some.inj hm
  refine wpL_ret (ret_tmp rfl hf rfl ?_)
  exact ⟨_, rfl, rfl, hs⟩

set_option maxRecDepth 100000 in
theorem impl_unitMatrix_ok (F : Nat) (bH : Int) (r : List (List Int)) (W : World) (hm : impl_unitMatrix F bH = some r) :
  Calls Try.prog 90 [.int .i64 bH].toArray W fun e w' => ∃ v, e = .returned v ∧ ∃ A8, ∃ n9, ∃ c10, ∃ vs12, v = .slice A8 n9 c10 ∧ n9 = r.length ∧ St [] W w' [.mat A8 n9 c10 28 2 vs12 r] := by
 unfold impl_unitMatrix at hm
 refine Calls.enter (N := 6) Try.func90 rfl rfl rfl (fun a hf => ?_)
 have hs := St.start W
 obtain ⟨w, hw_⟩ : ∃ w, w = W := ⟨W, rfl⟩
 clear hw_ w
 refine wpL_seq <| wpL_region ?_
 refine sY hf hs rfl rfl rfl (Y_assign rfl rfl) ?_; clear hf; intro a hf
 refine wpO_nil <| wpL_seq <| wpL_region ?_
 refine sY hf hs rfl rfl rfl (Y_move rfl rfl) ?_; clear hf; intro a hf
 refine sY hf hs rfl rfl rfl (Y_move rfl rfl) ?_; clear hf; intro a hf
 obtain ⟨r1, hc2, hm⟩ := bind_some hm
 refine sCall hf rfl rfl rfl rfl (cap := []) rfl rfl en111 (impl_matrixBy_ok F bH bH (fun x0 x1 => impl_unitMatrix_c1 F x0 x1) 158 [] _ _ hc2 (fun x0 x1 r w' hm_ hb => impl_unitMatrix_c1_ok F x0 x1 r w' hm_ ) en158) ?_; clear hf
 rintro _ w ⟨A3, n4, c5, vs7, rfl, hn6, hs1⟩ a hf
 have hs : St [] W w [.mat A3 n4 c5 28 2 vs7 r1] := hs.join hs1
 clear hs1
 refine sY hf hs rfl rfl rfl (Y_assign rfl rfl) ?_; clear hf; intro a hf
 refine wpO_nil ?_
 obtain rfl := Option.some.inj hm
 refine wpL_ret (ret_tmp rfl hf rfl ?_)
 exact ⟨_, rfl, A3, n4, c5, vs7, rfl, hn6, hs⟩

set_option maxRecDepth 100000 in
theorem impl_addMatrices_c1_ok (F : Nat) (cG : Int) (cH : Int) (b_z0 : Nat) (z0 : List (List Int)) (A_z0_1 : Option Addr) (n_z0_1 c_z0_1 : Nat) (hn_z0_1 : n_z0_1 = z0.length) (b_z1 : Nat) (z1 : List (List Int)) (A_z1_1 : Option Addr) (n_z1_1 c_z1_1 : Nat) (hn_z1_1 : n_z1_1 = z1.length) (r : Int) (W : World) (hm : impl_addMatrices_c1 F cG cH z0 z1 = some r) (h_z0_1 : RdM W A_z0_1 z0) (h_z0 : PB W b_z0 40 [.slice A_z0_1 n_z0_1 c_z0_1]) (h_z1_1 : RdM W A_z1_1 z1) (h_z1 : PB W b_z1 40 [.slice A_z1_1 n_z1_1 c_z1_1]) :
  Calls Try.prog 160 [.int .i64 cG, .int .i64 cH, .pointer (some ⟨b_z0, 0, none⟩), .pointer (some ⟨b_z1, 0, none⟩)].toArray W fun e w' => ∃ v, e = .returned v ∧ v = .int .i64 r ∧ St [] W w' [] := by
 subst hn_z0_1
 subst hn_z1_1
 unfold impl_addMatrices_c1 at hm
 refine Calls.enter (N := 22) Try.func160 rfl rfl rfl (fun a hf => ?_)
 have hs := St.start W
 obtain ⟨w, hw_⟩ : ∃ w, w = W := ⟨W, rfl⟩
 clear hw_ w
 refine wpL_seq <| wpL_region ?_
 refine sY hf hs rfl rfl rfl (Y_assign rfl rfl) ?_; clear hf; intro a hf
 refine wpO_nil <| wpL_seq ?_
 refine wpL_draw (by kernel_rfl) (by kernel_rfl) hs ?_
 refine qY hf rfl rfl rfl (Y_load_pb rfl rfl h_z0 rfl ag40) ?_; clear hf; intro a hf
 refine qY hf rfl rfl rfl (Y_move rfl rfl) ?_; clear hf; intro a hf
 obtain ⟨q1, hi2, hm⟩ := bind_some hm
 obtain ⟨hi2a, hi2b, hi2q⟩ := idx_some hi2
 obtain ⟨vs3, hv4, hr5⟩ := id h_z0_1
 obtain ⟨A6, c7, hv8, hR9⟩ := hr5 _ _ hi2q
 refine qY hf rfl rfl rfl (Y_index rfl rfl rfl el40 ti28 (Rd.isAt hv4 hv8) hi2a hi2b) ?_; clear hf; intro a hf
 refine qY hf rfl rfl rfl (Y_load_rd rfl rfl (fun w hs => hv4.at hs) (at1 hv8) ag28) ?_; clear hf; intro a hf
 refine qY hf rfl rfl rfl (Y_move rfl rfl) ?_; clear hf; intro a hf
 obtain ⟨q10, hi11, hm⟩ := bind_some hm
 obtain ⟨hi11a, hi11b, hi11q⟩ := idx_some hi11
 refine qY hf rfl rfl rfl (Y_index rfl rfl rfl el28 ti2 (Rd.isAt (hR9.at hs) (at1 (ints_at hi11q))) hi11a hi11b) ?_; clear hf; intro a hf
 refine qY hf rfl rfl rfl (Y_load_rd rfl rfl (fun w hs => hR9.at hs) (at1 (ints_at hi11q)) ag2) ?_; clear hf; intro a hf
 refine qY hf rfl rfl rfl (Y_load_pb rfl rfl h_z1 rfl ag40) ?_; clear hf; intro a hf
 refine qY hf rfl rfl rfl (Y_move rfl rfl) ?_; clear hf; intro a hf
 obtain ⟨q12, hi13, hm⟩ := bind_some hm
 obtain ⟨hi13a, hi13b, hi13q⟩ := idx_some hi13
 obtain ⟨vs14, hv15, hr16⟩ := id h_z1_1
 obtain ⟨A17, c18, hv19, hR20⟩ := hr16 _ _ hi13q
 refine qY hf rfl rfl rfl (Y_index rfl rfl rfl el40 ti28 (Rd.isAt hv15 hv19) hi13a hi13b) ?_; clear hf; intro a hf
 refine qY hf rfl rfl rfl (Y_load_rd rfl rfl (fun w hs => hv15.at hs) (at1 hv19) ag28) ?_; clear hf; intro a hf
 refine qY hf rfl rfl rfl (Y_move rfl rfl) ?_; clear hf; intro a hf
 obtain ⟨q21, hi22, hm⟩ := bind_some hm
 obtain ⟨hi22a, hi22b, hi22q⟩ := idx_some hi22
 refine qY hf rfl rfl rfl (Y_index rfl rfl rfl el28 ti2 (Rd.isAt (hR20.at hs) (at1 (ints_at hi22q))) hi22a hi22b) ?_; clear hf; intro a hf
 refine qY hf rfl rfl rfl (Y_load_rd rfl rfl (fun w hs => hR20.at hs) (at1 (ints_at hi22q)) ag2) ?_; clear hf; intro a hf
 refine qY hf rfl rfl rfl (Y_max rfl rfl rfl) ?_; clear hf; intro a hf
 refine qY hf rfl rfl rfl (Y_assign rfl rfl) ?_; clear hf; intro a hf
 refine qNil ?_; clear hs; intro w hs
 obtain rfl := Option.some.inj hm
 refine wpL_ret (ret_tmp rfl hf rfl ?_)
 exact ⟨_, rfl, rfl, hs⟩

set_option maxRecDepth 100000 in
theorem impl_addMatrices_ok (F : Nat) (aw : List (List Int)) (av : Option Addr) (aO az : Nat) (aS : aO = aw.length) (aD : List (List Int)) (aB : Option Addr) (aU aL : Nat) (bb : aU = aD.length) (r : List (List Int)) (W : World) (hm : impl_addMatrices F aw aD = some r) (aP : RdM W av aw) (aW : RdM W aB aD) :
  Calls Try.prog 92 [.slice av aO az, .slice aB aU aL].toArray W fun e w' => ∃ v, e = .returned v ∧ ∃ A19, ∃ n20, ∃ c21, ∃ vs23, v = .slice A19 n20 c21 ∧ n20 = r.length ∧ St [] W w' [.mat A19 n20 c21 28 2 vs23 r] := by
 subst aS
 subst bb
 unfold impl_addMatrices at hm
 refine Calls.enter (N := 13) Try.func92 rfl rfl rfl (fun a hf => ?_)
 have hs := St.start W
 obtain ⟨w, hw_⟩ : ∃ w, w = W := ⟨W, rfl⟩
 clear hw_ w
 refine wpL_seq <| wpL_region ?_
 refine sBox hf hs rfl rfl rfl rfl rfl (cs := [.slice av aw.length az]) rfl ?_; clear hf hs; intro a w b1 hs hf
 have hs : St [] W w [.blk b1 40 [.slice av aw.length az]] := hs
 refine sBox hf hs rfl rfl rfl rfl rfl (cs := [.slice aB aD.length aL]) rfl ?_; clear hf hs; intro a w b2 hs hf
 have hs : St [] W w [.blk b1 40 [.slice av aw.length az], .blk b2 40 [.slice aB aD.length aL]] := hs
 refine sY hf hs rfl rfl rfl (Y_assign rfl rfl) ?_; clear hf; intro a hf
 refine wpO_nil <| wpL_seq ?_
 refine wpL_drawM [.blk b1 40 [.slice av aw.length az], .blk b2 40 [.slice aB aD.length aL]] [7] (by kernel_rfl) hs ?_; clear hs; intro w hs
 have hs0 : St [] W w [.blk b1 40 [.slice av aw.length az], .blk b2 40 [.slice aB aD.length aL]] := hs
 refine mY (i := 0) [[1]] rfl (by kernel_rfl) (by kernel_rfl) hf hs0 rfl rfl rfl (Y_load_blk rfl rfl (i := 0) rfl rfl ag40) ?_; clear hf; intro a hf
 refine mYp (i := 1) rfl (by kernel_rfl) (by kernel_rfl) hf rfl rfl rfl (fun _ => Y_lenH rfl rfl el40 rfl) ?_; clear hf; intro a hf
 refine mY (i := 2) [[3, 4, 5]] rfl (by kernel_rfl) (by kernel_rfl) hf hs0 rfl rfl rfl (Y_load_blk rfl rfl (i := 0) rfl rfl ag40) ?_; clear hf; intro a hf
 obtain ⟨q3, hi4, hm⟩ := bind_some hm
 obtain ⟨hi4a, hi4b, hi4q⟩ := idx_some hi4
 obtain ⟨vs5, hv6, hr7⟩ := id aP
 obtain ⟨A8, c9, hv10, hR11⟩ := hr7 _ _ hi4q
 refine mYp (i := 3) rfl (by kernel_rfl) (by kernel_rfl) hf rfl rfl rfl (fun _ => Y_index rfl rfl rfl el40 ti28 (Rd.isAt hv6 hv10) hi4a hi4b) ?_; clear hf; intro a hf
 refine mY (i := 4) [[5]] rfl (by kernel_rfl) (by kernel_rfl) hf hs0 rfl rfl rfl (Y_load_rd rfl rfl (fun w hs => hv6.at hs) (at1 hv10) ag28) ?_; clear hf; intro a hf
 refine mYp (i := 5) rfl (by kernel_rfl) (by kernel_rfl) hf rfl rfl rfl (fun _ => Y_lenH rfl rfl el28 rfl) ?_; clear hf; intro a hf
 refine mYp (i := 6) rfl (by kernel_rfl) (by kernel_rfl) hf rfl rfl rfl (fun _ => Y_makeFunc (us := []) (vs := [.pointer (some ⟨b1, 0, none⟩), .pointer (some ⟨b2, 0, none⟩)]) rfl rfl rfl) ?_; clear hf; intro a hf
 refine mRun (i := 7) rfl (by kernel_rfl) ?_
 obtain ⟨r12, hc13, hm⟩ := bind_some hm
 refine sCall hf rfl rfl rfl rfl (cap := []) rfl rfl en111 (impl_matrixBy_ok F (aw.length : Int) (q3.length : Int) (fun x0 x1 => impl_addMatrices_c1 F x0 x1 aw aD) 160 ([.pointer (some ⟨b1, 0, none⟩), .pointer (some ⟨b2, 0, none⟩)]) _ _ hc13 (fun x0 x1 r w' hm_ hb => impl_addMatrices_c1_ok F x0 x1 b1 aw av aw.length az rfl b2 aD aB aD.length aL rfl r w' hm_ ((aP.at hs).below hb (Nat.le_refl _)) ((hs.pb (i := 0) rfl).below hb (Nat.le_refl _)) ((aW.at hs).below hb (Nat.le_refl _)) ((hs.pb (i := 1) rfl).below hb (Nat.le_refl _))) en160) ?_; clear hf
 rintro _ w ⟨A14, n15, c16, vs18, rfl, hn17, hs1⟩ a hf
 have hs : St [] W w [.blk b1 40 [.slice av aw.length az], .blk b2 40 [.slice aB aD.length aL], .mat A14 n15 c16 28 2 vs18 r12] := hs.join hs1
 clear hs1
 refine wpO_nil ⟨Or.inl (by decide), ?_⟩
 refine mYp (i := 8) rfl (by kernel_rfl) (by kernel_rfl) hf rfl rfl rfl (fun _ => Y_assign rfl rfl) ?_; clear hf; intro a hf
 refine mDone (by kernel_rfl) ?_
 clear hs0
 obtain rfl := Option.some.inj hm
 refine wpL_ret (ret_tmp rfl hf rfl ?_)
 exact ⟨_, rfl, A14, n15, c16, vs18, rfl, hn17, hs.sel [2] (by decide)⟩

set_option maxRecDepth 100000 in
theorem impl_times_ok (F : Nat) (aw : Int) (aD : Int) (r : Int) (W : World) (hm : impl_times F aw aD = some r) :
  Calls Try.prog 145 [.int .i64 aw, .int .i64 aD].toArray W fun e w' => ∃ v, e = .returned v ∧ v = .int .i64 r ∧ St [] W w' [] := by
 unfold impl_times at hm
 refine Calls.enter (N := 14) Try.func145 rfl rfl rfl (fun a hf => ?_)
 have hs := St.start W
 obtain ⟨w, hw_⟩ : ∃ w, w = W := ⟨W, rfl⟩
 clear hw_ w
 refine wpL_seq <| wpL_region ?_
 refine sY hf hs rfl rfl rfl (Y_assign rfl rfl) ?_; clear hf; intro a hf
 refine wpO_nil <| wpL_seq <| wpL_seq ?_
 obtain ⟨r3, hj4, hm⟩ := bind_some hm
 refine wpL_cut (fun a w => ∃ b2 : Bool, b2 = r3 ∧ Fr a 14 [(0, .int .i64 aw), (1, .int .i64 aD), (10, .bool b2)] ∧ St [] W w []) ?_ ?_
 ·refine wpL_region ?_
  refine sY hf hs rfl rfl rfl (Y_move rfl rfl) ?_; clear hf; intro a hf
  refine sY hf hs rfl rfl rfl (Y_eql rfl rfl rfl) ?_; clear hf; intro a hf
  refine sY hf hs rfl rfl rfl (Y_move rfl rfl) ?_; clear hf; intro a hf
  refine bsplit (aw == (-1000000000000000)) (fun hb5 => ?_) (fun hb5 => ?_)
  ·have hj4 := bif_t hj4 hb5
   refine sNo hf rfl rfl rfl (congrArg (fun b => some (Value.bool b)) hb5) rfl rfl rfl ?_; clear hf; intro a hf
   refine sNo hf rfl rfl rfl (congrArg (fun b => some (Value.bool b)) hb5) rfl rfl rfl ?_; clear hf; intro a hf
   refine sY hf hs rfl rfl rfl (Y_pickT rfl (congrArg (fun b => some (Value.bool b)) hb5) rfl) ?_; clear hf; intro a hf
   refine wpO_nil ?_
   refine wpL_nil (then_normal ?_)
   exact ⟨true, Option.some.inj hj4, (FrD.pick (FrD.pick (FrD.pick hf.none hf rfl) hf rfl) hf rfl), hs⟩
  ·have hj4 := bif_f hj4 hb5
   refine sYg hf hs rfl rfl rfl (congrArg (fun b => some (Value.bool b)) hb5) rfl rfl rfl (Y_move rfl rfl) ?_; clear hf; intro a hf
   refine sYg hf hs rfl rfl rfl (congrArg (fun b => some (Value.bool b)) hb5) rfl rfl rfl (Y_eql rfl rfl rfl) ?_; clear hf; intro a hf
   refine sY hf hs rfl rfl rfl (Y_pickF rfl (congrArg (fun b => some (Value.bool b)) hb5) rfl) ?_; clear hf; intro a hf
   refine wpO_nil ?_
   refine wpL_nil (then_normal ?_)
   exact ⟨(aD == (-1000000000000000)), Option.some.inj hj4, (FrD.pick (FrD.pick (FrD.pick hf.none hf rfl) hf rfl) hf rfl), hs⟩
 ·rintro a w ⟨b2, hr_, hf, hs⟩
  subst hr_
  try dsimp only at hm
  refine wpL_cond hf rfl (fun hb6 => ?_) (fun hb6 => ?_)
  ·have hm := bif_t hm hb6
   refine wpL_seq <| wpL_region ?_
   refine sY hf hs rfl rfl rfl (Y_assign rfl rfl) ?_; clear hf; intro a hf
   refine wpO_nil ?_
   obtain rfl := Option.some.inj hm
   refine wpL_ret (ret_tmp rfl hf rfl ?_)
   exact ⟨_, rfl, rfl, hs⟩
  ·have hm := bif_f hm hb6
   refine wpL_skip <| wpL_seq <| wpL_region ?_
   refine sY hf hs rfl rfl rfl (Y_move rfl rfl) ?_; clear hf; intro a hf
   refine sY hf hs rfl rfl rfl (Y_move rfl rfl) ?_; clear hf; intro a hf
   refine sY hf hs rfl rfl rfl (Y_add rfl rfl rfl) ?_; clear hf; intro a hf
   refine sY hf hs rfl rfl rfl (Y_assign rfl rfl) ?_; clear hf; intro a hf
   refine wpO_nil ?_
   obtain rfl := Option.some.inj hm
   refine wpL_ret (ret_tmp rfl hf rfl ?_)
   exact ⟨_, rfl, rfl, hs⟩

set_option maxHeartbeats 2000000 in
set_option maxRecDepth 100000 in
theorem impl_starOf_ok (F : Nat) (p0 : List (List Int)) (ao : Option Addr) (aZ aq : Nat) (bK : aZ = p0.length) (r : List (List Int) × Bool) (W : World) (hm : impl_starOf F p0 = some r) (aV : RdM W ao p0) :
  Calls Try.prog 80 [.slice ao aZ aq].toArray W fun e w' => ∃ v, e = .returned v ∧ ∃ A5035, ∃ n5036, ∃ c5037, ∃ vs5039, v = .tuple #[.slice A5035 n5036 c5037, .bool r.2] ∧ n5036 = r.1.length ∧ St [] W w' [.mat A5035 n5036 c5037 28 2 vs5039 r.1] := by
 subst bK
 unfold impl_starOf at hm
 refine Calls.enter (N := 84) Try.func80 rfl rfl rfl (fun a hf => ?_)
 have hs := St.start W
 obtain ⟨w, hw_⟩ : ∃ w, w = W := ⟨W, rfl⟩
 clear hw_ w
 refine wpL_seq <| wpL_region ?_
 refine sY hf hs rfl rfl rfl (Y_assign rfl rfl) ?_; clear hf; intro a hf
 refine sY hf hs rfl rfl rfl (Y_assign rfl rfl) ?_; clear hf; intro a hf
 refine wpO_nil <| wpL_seq <| wpL_region ?_
 refine sY hf hs rfl rfl rfl (Y_move rfl rfl) ?_; clear hf; intro a hf
 refine sY hf hs rfl rfl rfl (Y_move rfl rfl) ?_; clear hf; intro a hf
 refine sY hf hs rfl rfl rfl (Y_lenH rfl rfl el40 rfl) ?_; clear hf; intro a hf
 obtain ⟨r1, hc2, hm⟩ := bind_some hm
 refine sCall hf rfl rfl rfl rfl (cap := []) rfl rfl en90 (impl_unitMatrix_ok F (p0.length : Int) _ _ hc2) ?_; clear hf
 rintro _ w ⟨A3, n4, c5, vs7, rfl, hn6, hs1⟩ a hf
 have hs : St [] W w [.mat A3 n4 c5 28 2 vs7 r1] := hs.join hs1
 clear hs1
 obtain ⟨r8, hc9, hm⟩ := bind_some hm
 refine sCall hf rfl rfl rfl rfl (cap := []) rfl rfl en92 (impl_addMatrices_ok F p0 ao p0.length aq rfl r1 A3 n4 c5 hn6 _ _ hc9 (aV.at hs) (hs.rdM (i := 0) rfl)) ?_; clear hf
 rintro _ w ⟨A10, n11, c12, vs14, rfl, hn13, hs1⟩ a hf
 have hs : St [] W w [.mat A3 n4 c5 28 2 vs7 r1, .mat A10 n11 c12 28 2 vs14 r8] := hs.join hs1
 clear hs1
 refine sY hf hs rfl rfl rfl (Y_assign rfl rfl) ?_; clear hf; intro a hf
 refine wpO_nil <| wpL_seq <| wpL_seq <| wpL_region ?_
 refine sY hf hs rfl rfl rfl (Y_move rfl rfl) ?_; clear hf; intro a hf
 refine sY hf hs rfl rfl rfl (Y_lenH rfl rfl el40 hn13) ?_; clear hf; intro a hf
 refine sY hf hs rfl rfl rfl (Y_move rfl rfl) ?_; clear hf; intro a hf
 refine wpO_nil ?_
 obtain ⟨r3746, hl3747, hm⟩ := bind_some hm
 refine wpL_block (fun a w => ∃ ms3744 : List (List Int), Sum.inr ms3744 = r3746 ∧ n11 = ms3744.length ∧ Fr a 84 [(4, .slice A10 n11 c12)] ∧ St [] W w [.mat A10 n11 c12 28 2 vs14 ms3744]) ?_ ?_
 ·refine wpL_loop (fun n a w => ∃ ms2500 : List (List Int), ∃ x2502 : Int, impl_starOf_L16 F r8 n ms2500 x2502 = some r3746 ∧ n11 = ms2500.length ∧ Fr a 84 [(4, .slice A10 n11 c12), (15, .int .i64 (r8.length : Int)), (16, .int .i64 x2502)] ∧ St [] W w [.mat A10 n11 c12 28 2 vs14 ms2500]) F ?_ ?_ ?_
  ·exact ⟨r8, 0, hl3747, hn13, (FrD.pick (FrD.pick (FrD.pick hf.none hf rfl) hf rfl) hf rfl), hs.sel [1] (by decide)⟩
  ·rintro a w ⟨ms2500, x2502, h0_, -, -, -⟩; simp [impl_starOf_L16] at h0_
  ·rintro n3749 a w ⟨ms2500, x2502, hm3748, hn2501, hf, hs⟩
   rw [impl_starOf_L16] at hm3748
   refine wpL_seq <| wpL_region ?_
   refine sY hf hs rfl rfl rfl (Y_lss rfl rfl rfl) ?_; clear hf; intro a hf
   refine wpO_nil <| wpL_seq ?_
   refine wpL_cond hf rfl (fun hb3750 => ?_) (fun hb3750 => ?_)
   ·have hm3748 := bif_t hm3748 hb3750
    refine wpL_skip <| wpL_seq <| wpL_block0 <| wpL_seq <| wpL_region ?_
    refine sY hf hs rfl rfl rfl (Y_move rfl rfl) ?_; clear hf; intro a hf
    refine sY hf hs rfl rfl rfl (Y_assign rfl rfl) ?_; clear hf; intro a hf
    refine wpO_nil <| wpL_seq <| wpL_seq <| wpL_region ?_
    refine sY hf hs rfl rfl rfl (Y_move rfl rfl) ?_; clear hf; intro a hf
    refine sY hf hs rfl rfl rfl (Y_move rfl rfl) ?_; clear hf; intro a hf
    obtain ⟨q3751, hi3752, hm3748⟩ := bind_some hm3748
    obtain ⟨hi3752a, hi3752b, hi3752q⟩ := idx_some hi3752
    obtain ⟨A3753, c3754, hv3755⟩ := hs.matRow (i := 0) rfl hi3752q
    refine sY hf hs rfl rfl rfl (Y_index rfl rfl rfl el40 ti28 (Rd.isAt (hs.rdV (i := 0) rfl) hv3755) hi3752a (ltn hn2501 hi3752b)) ?_; clear hf; intro a hf
    refine sY hf hs rfl rfl rfl (Y_load_rd rfl rfl (fun w hs => hs.rdV (i := 0) rfl) (at1 hv3755) ag28) ?_; clear hf; intro a hf
    refine sY hf hs rfl rfl rfl (Y_move rfl rfl) ?_; clear hf; intro a hf
    obtain ⟨q3756, hi3757, hm3748⟩ := bind_some hm3748
    obtain ⟨hi3757a, hi3757b, hi3757q⟩ := idx_some hi3757
    refine sY hf hs rfl rfl rfl (Y_index rfl rfl rfl el28 ti2 (Rd.isAt (hs.rdRow (i := 0) rfl ⟨hi3752q, hv3755⟩) (at1 (ints_at hi3757q))) hi3757a hi3757b) ?_; clear hf; intro a hf
    refine sY hf hs rfl rfl rfl (Y_load_rd rfl rfl (fun w hs => hs.rdRow (i := 0) rfl ⟨hi3752q, hv3755⟩) (at1 (ints_at hi3757q)) ag2) ?_; clear hf; intro a hf
    refine sY hf hs rfl rfl rfl (Y_gtr rfl rfl rfl) ?_; clear hf; intro a hf
    refine wpO_nil ?_
    refine wpL_cond hf rfl (fun hb3758 => ?_) (fun hb3758 => ?_)
    ·have hm3748 := bif_t hm3748 hb3758
     refine wpL_seq <| wpL_region ?_
     refine sY hf hs rfl rfl rfl (Y_assign rfl rfl) ?_; clear hf; intro a hf
     refine sY hf hs rfl rfl rfl (Y_assign rfl rfl) ?_; clear hf; intro a hf
     refine wpO_nil ?_
     have hs : St [] W _ [.mat A10 n11 c12 28 2 vs14 ms2500, .mat none 0 0 28 2 [] ([] : List (List Int))] := hs.addNilM 28 2
     obtain rfl := Option.some.inj hm3748
     try dsimp only at hm
     obtain rfl := Option.some.inj hm
     refine wpL_ret (Qb_ret (Ql_ret (Qb_ret (ret_tmp2 rfl hf rfl rfl ?_))))
     exact ⟨_, rfl, none, 0, 0, [], rfl, rfl, hs.sel [1] (by decide)⟩
    ·have hm3748 := bif_f hm3748 hb3758
     refine wpL_skip <| wpL_seq <| wpL_region ?_
     refine sY hf hs rfl rfl rfl (Y_move rfl rfl) ?_; clear hf; intro a hf
     refine sY hf hs rfl rfl rfl (Y_lenH rfl rfl el40 hn2501) ?_; clear hf; intro a hf
     refine sY hf hs rfl rfl rfl (Y_move rfl rfl) ?_; clear hf; intro a hf
     refine wpO_nil ?_
     obtain ⟨r4683, hl4684, hm3748⟩ := bind_some hm3748
     refine wpL_block (fun a w => ∃ ms4681 : List (List Int), ms4681 = r4683 ∧ n11 = ms4681.length ∧ Fr a 84 [(4, .slice A10 n11 c12), (15, .int .i64 (r8.length : Int)), (16, .int .i64 x2502)] ∧ St [] W w [.mat A10 n11 c12 28 2 vs14 ms4681]) ?_ ?_
     ·refine wpL_loop (fun n a w => ∃ ms4373 : List (List Int), ∃ x4375 : Int, impl_starOf_L20 F ms2500 x2502 n ms4373 x4375 = some r4683 ∧ n11 = ms4373.length ∧ Fr a 84 [(4, .slice A10 n11 c12), (5, .int .i64 x2502), (15, .int .i64 (r8.length : Int)), (16, .int .i64 x2502), (28, .int .i64 (ms2500.length : Int)), (29, .int .i64 x4375)] ∧ St [] W w [.mat A10 n11 c12 28 2 vs14 ms4373]) F ?_ ?_ ?_
      ·exact ⟨ms2500, 0, hl4684, hn2501, (FrD.pick (FrD.pick (FrD.pick (FrD.pick (FrD.pick (FrD.pick hf.none hf rfl) hf rfl) hf rfl) hf rfl) hf rfl) hf rfl), hs⟩
      ·rintro a w ⟨ms4373, x4375, h0_, -, -, -⟩; simp [impl_starOf_L20] at h0_
      ·rintro n4686 a w ⟨ms4373, x4375, hm4685, hn4374, hf, hs⟩
       rw [impl_starOf_L20] at hm4685
       refine wpL_seq <| wpL_region ?_
       refine sY hf hs rfl rfl rfl (Y_lss rfl rfl rfl) ?_; clear hf; intro a hf
       refine wpO_nil <| wpL_seq ?_
       refine wpL_cond hf rfl (fun hb4687 => ?_) (fun hb4687 => ?_)
       ·have hm4685 := bif_t hm4685 hb4687
        refine wpL_skip <| wpL_seq <| wpL_block0 <| wpL_seq <| wpL_region ?_
        refine sY hf hs rfl rfl rfl (Y_move rfl rfl) ?_; clear hf; intro a hf
        refine sY hf hs rfl rfl rfl (Y_assign rfl rfl) ?_; clear hf; intro a hf
        refine wpO_nil <| wpL_seq <| wpL_region ?_
        refine sY hf hs rfl rfl rfl (Y_move rfl rfl) ?_; clear hf; intro a hf
        refine sY hf hs rfl rfl rfl (Y_lenH rfl rfl el40 hn4374) ?_; clear hf; intro a hf
        refine sY hf hs rfl rfl rfl (Y_move rfl rfl) ?_; clear hf; intro a hf
        refine wpO_nil ?_
        obtain ⟨r4915, hl4916, hm4685⟩ := bind_some hm4685
        refine wpL_block (fun a w => ∃ ms4913 : List (List Int), ms4913 = r4915 ∧ n11 = ms4913.length ∧ Fr a 84 [(4, .slice A10 n11 c12), (5, .int .i64 x2502), (15, .int .i64 (r8.length : Int)), (16, .int .i64 x2502), (28, .int .i64 (ms2500.length : Int)), (29, .int .i64 x4375)] ∧ St [] W w [.mat A10 n11 c12 28 2 vs14 ms4913]) ?_ ?_
        ·refine wpL_loop (fun n a w => ∃ ms4837 : List (List Int), ∃ x4839 : Int, impl_starOf_L21 F x2502 ms4373 x4375 n ms4837 x4839 = some r4915 ∧ n11 = ms4837.length ∧ Fr a 84 [(4, .slice A10 n11 c12), (5, .int .i64 x2502), (6, .int .i64 x4375), (15, .int .i64 (r8.length : Int)), (16, .int .i64 x2502), (28, .int .i64 (ms2500.length : Int)), (29, .int .i64 x4375), (33, .int .i64 (ms4373.length : Int)), (34, .int .i64 x4839)] ∧ St [] W w [.mat A10 n11 c12 28 2 vs14 ms4837]) F ?_ ?_ ?_
         ·exact ⟨ms4373, 0, hl4916, hn4374, (FrD.pick (FrD.pick (FrD.pick (FrD.pick (FrD.pick (FrD.pick (FrD.pick (FrD.pick (FrD.pick hf.none hf rfl) hf rfl) hf rfl) hf rfl) hf rfl) hf rfl) hf rfl) hf rfl) hf rfl), hs⟩
         ·rintro a w ⟨ms4837, x4839, h0_, -, -, -⟩; simp [impl_starOf_L21] at h0_
         ·rintro n4918 a w ⟨ms4837, x4839, hm4917, hn4838, hf, hs⟩
          rw [impl_starOf_L21] at hm4917
          refine wpL_seq <| wpL_region ?_
          refine sY hf hs rfl rfl rfl (Y_lss rfl rfl rfl) ?_; clear hf; intro a hf
          refine wpO_nil <| wpL_seq ?_
          refine wpL_cond hf rfl (fun hb4919 => ?_) (fun hb4919 => ?_)
          ·have hm4917 := bif_t hm4917 hb4919
           refine wpL_skip <| wpL_seq <| wpL_block0 <| wpL_seq <| wpL_region ?_
           refine sY hf hs rfl rfl rfl (Y_move rfl rfl) ?_; clear hf; intro a hf
           refine sY hf hs rfl rfl rfl (Y_assign rfl rfl) ?_; clear hf; intro a hf
           refine wpO_nil ?_
           refine wpL_drawM [.mat A10 n11 c12 28 2 vs14 ms4837] [29] (by kernel_rfl) hs ?_; clear hs; intro w hs
           have hs0 : St [] W w [.mat A10 n11 c12 28 2 vs14 ms4837] := hs
           refine mYp (i := 0) rfl (by kernel_rfl) (by kernel_rfl) hf rfl rfl rfl (fun _ => Y_move rfl rfl) ?_; clear hf; intro a hf
           refine mYp (i := 1) rfl (by kernel_rfl) (by kernel_rfl) hf rfl rfl rfl (fun _ => Y_move rfl rfl) ?_; clear hf; intro a hf
           obtain ⟨q4956, hi4957, hm4917⟩ := bind_some hm4917
           obtain ⟨hi4957a, hi4957b, hi4957q⟩ := idx_some hi4957
           obtain ⟨A4958, c4959, hv4960⟩ := hs.matRow (i := 0) rfl hi4957q
           refine mYp (i := 2) rfl (by kernel_rfl) (by kernel_rfl) hf rfl rfl rfl (fun _ => Y_index rfl rfl rfl el40 ti28 (Rd.isAt (hs.rdV (i := 0) rfl) hv4960) hi4957a (ltn hn4838 hi4957b)) ?_; clear hf; intro a hf
           refine mY (i := 3) [[]] rfl (by kernel_rfl) (by kernel_rfl) hf hs0 rfl rfl rfl (Y_load_rd rfl rfl (fun w hs => hs.rdV (i := 0) rfl) (at1 hv4960) ag28) ?_; clear hf; intro a hf
           refine mYp (i := 4) rfl (by kernel_rfl) (by kernel_rfl) hf rfl rfl rfl (fun _ => Y_move rfl rfl) ?_; clear hf; intro a hf
           refine mYp (i := 5) rfl (by kernel_rfl) (by kernel_rfl) hf rfl rfl rfl (fun _ => Y_move rfl rfl) ?_; clear hf; intro a hf
           refine mYp (i := 6) rfl (by kernel_rfl) (by kernel_rfl) hf rfl rfl rfl (fun _ => Y_move rfl rfl) ?_; clear hf; intro a hf
           obtain ⟨q4961, hi4962, hm4917⟩ := bind_some hm4917
           obtain ⟨hi4962a, hi4962b, hi4962q⟩ := idx_some hi4962
           obtain ⟨A4963, c4964, hv4965⟩ := hs.matRow (i := 0) rfl hi4962q
           refine mYp (i := 7) rfl (by kernel_rfl) (by kernel_rfl) hf rfl rfl rfl (fun _ => Y_index rfl rfl rfl el40 ti28 (Rd.isAt (hs.rdV (i := 0) rfl) hv4965) hi4962a (ltn hn4838 hi4962b)) ?_; clear hf; intro a hf
           refine mY (i := 8) [[]] rfl (by kernel_rfl) (by kernel_rfl) hf hs0 rfl rfl rfl (Y_load_rd rfl rfl (fun w hs => hs.rdV (i := 0) rfl) (at1 hv4965) ag28) ?_; clear hf; intro a hf
           refine mYp (i := 9) rfl (by kernel_rfl) (by kernel_rfl) hf rfl rfl rfl (fun _ => Y_move rfl rfl) ?_; clear hf; intro a hf
           obtain ⟨q4966, hi4967, hm4917⟩ := bind_some hm4917
           obtain ⟨hi4967a, hi4967b, hi4967q⟩ := idx_some hi4967
           refine mYp (i := 10) rfl (by kernel_rfl) (by kernel_rfl) hf rfl rfl rfl (fun _ => Y_index rfl rfl rfl el28 ti2 (Rd.isAt (hs.rdRow (i := 0) rfl ⟨hi4962q, hv4965⟩) (at1 (ints_at hi4967q))) hi4967a hi4967b) ?_; clear hf; intro a hf
           refine mY (i := 11) [[]] rfl (by kernel_rfl) (by kernel_rfl) hf hs0 rfl rfl rfl (Y_load_rd rfl rfl (fun w hs => hs.rdRow (i := 0) rfl ⟨hi4962q, hv4965⟩) (at1 (ints_at hi4967q)) ag2) ?_; clear hf; intro a hf
           refine mYp (i := 12) rfl (by kernel_rfl) (by kernel_rfl) hf rfl rfl rfl (fun _ => Y_move rfl rfl) ?_; clear hf; intro a hf
           refine mYp (i := 13) rfl (by kernel_rfl) (by kernel_rfl) hf rfl rfl rfl (fun _ => Y_move rfl rfl) ?_; clear hf; intro a hf
           obtain ⟨q4968, hi4969, hm4917⟩ := bind_some hm4917
           obtain ⟨hi4969a, hi4969b, hi4969q⟩ := idx_some hi4969
           obtain ⟨A4970, c4971, hv4972⟩ := hs.matRow (i := 0) rfl hi4969q
           refine mYp (i := 14) rfl (by kernel_rfl) (by kernel_rfl) hf rfl rfl rfl (fun _ => Y_index rfl rfl rfl el40 ti28 (Rd.isAt (hs.rdV (i := 0) rfl) hv4972) hi4969a (ltn hn4838 hi4969b)) ?_; clear hf; intro a hf
           refine mY (i := 15) [[]] rfl (by kernel_rfl) (by kernel_rfl) hf hs0 rfl rfl rfl (Y_load_rd rfl rfl (fun w hs => hs.rdV (i := 0) rfl) (at1 hv4972) ag28) ?_; clear hf; intro a hf
           refine mYp (i := 16) rfl (by kernel_rfl) (by kernel_rfl) hf rfl rfl rfl (fun _ => Y_move rfl rfl) ?_; clear hf; intro a hf
           obtain ⟨q4973, hi4974, hm4917⟩ := bind_some hm4917
           obtain ⟨hi4974a, hi4974b, hi4974q⟩ := idx_some hi4974
           refine mYp (i := 17) rfl (by kernel_rfl) (by kernel_rfl) hf rfl rfl rfl (fun _ => Y_index rfl rfl rfl el28 ti2 (Rd.isAt (hs.rdRow (i := 0) rfl ⟨hi4969q, hv4972⟩) (at1 (ints_at hi4974q))) hi4974a hi4974b) ?_; clear hf; intro a hf
           refine mY (i := 18) [[]] rfl (by kernel_rfl) (by kernel_rfl) hf hs0 rfl rfl rfl (Y_load_rd rfl rfl (fun w hs => hs.rdRow (i := 0) rfl ⟨hi4969q, hv4972⟩) (at1 (ints_at hi4974q)) ag2) ?_; clear hf; intro a hf
           refine mYp (i := 19) rfl (by kernel_rfl) (by kernel_rfl) hf rfl rfl rfl (fun _ => Y_move rfl rfl) ?_; clear hf; intro a hf
           refine mYp (i := 20) rfl (by kernel_rfl) (by kernel_rfl) hf rfl rfl rfl (fun _ => Y_move rfl rfl) ?_; clear hf; intro a hf
           obtain ⟨q4975, hi4976, hm4917⟩ := bind_some hm4917
           obtain ⟨hi4976a, hi4976b, hi4976q⟩ := idx_some hi4976
           obtain ⟨A4977, c4978, hv4979⟩ := hs.matRow (i := 0) rfl hi4976q
           refine mYp (i := 21) rfl (by kernel_rfl) (by kernel_rfl) hf rfl rfl rfl (fun _ => Y_index rfl rfl rfl el40 ti28 (Rd.isAt (hs.rdV (i := 0) rfl) hv4979) hi4976a (ltn hn4838 hi4976b)) ?_; clear hf; intro a hf
           refine mY (i := 22) [[]] rfl (by kernel_rfl) (by kernel_rfl) hf hs0 rfl rfl rfl (Y_load_rd rfl rfl (fun w hs => hs.rdV (i := 0) rfl) (at1 hv4979) ag28) ?_; clear hf; intro a hf
           refine mYp (i := 23) rfl (by kernel_rfl) (by kernel_rfl) hf rfl rfl rfl (fun _ => Y_move rfl rfl) ?_; clear hf; intro a hf
           obtain ⟨q4980, hi4981, hm4917⟩ := bind_some hm4917
           obtain ⟨hi4981a, hi4981b, hi4981q⟩ := idx_some hi4981
           refine mYp (i := 24) rfl (by kernel_rfl) (by kernel_rfl) hf rfl rfl rfl (fun _ => Y_index rfl rfl rfl el28 ti2 (Rd.isAt (hs.rdRow (i := 0) rfl ⟨hi4976q, hv4979⟩) (at1 (ints_at hi4981q))) hi4981a hi4981b) ?_; clear hf; intro a hf
           refine mY (i := 25) [[]] rfl (by kernel_rfl) (by kernel_rfl) hf hs0 rfl rfl rfl (Y_load_rd rfl rfl (fun w hs => hs.rdRow (i := 0) rfl ⟨hi4976q, hv4979⟩) (at1 (ints_at hi4981q)) ag2) ?_; clear hf; intro a hf
           refine mRun (i := 26) rfl (by kernel_rfl) ?_
           obtain ⟨r4982, hc4983, hm4917⟩ := bind_some hm4917
           refine sCall hf rfl rfl rfl rfl (cap := []) rfl rfl en145 (impl_times_ok F q4973 q4980 _ _ hc4983) ?_; clear hf
           rintro _ w ⟨rfl, hs1⟩ a hf
           have hs : St [] W w [.mat A10 n11 c12 28 2 vs14 ms4837] := hs.ext hs1.below
           clear hs1
           have hs0 : St [] W w [.mat A10 n11 c12 28 2 vs14 ms4837] := hs
           refine wpO_nil ⟨Or.inr (fun _ => hs0), ?_⟩
           refine mYp (i := 27) rfl (by kernel_rfl) (by kernel_rfl) hf rfl rfl rfl (fun _ => Y_max rfl rfl rfl) ?_; clear hf; intro a hf
           obtain ⟨q4984, hi4985, hm4917⟩ := bind_some hm4917
           obtain ⟨hi4985a, hi4985b, hi4985q⟩ := idx_some hi4985
           refine mYp (i := 28) rfl (by kernel_rfl) (by kernel_rfl) hf rfl rfl rfl (fun _ => Y_index rfl rfl rfl el28 ti2 (Rd.isAt (hs.rdRow (i := 0) rfl ⟨hi4957q, hv4960⟩) (at1 (ints_at hi4985q))) hi4985a hi4985b) ?_; clear hf; intro a hf
           refine mRun (i := 29) rfl (by kernel_rfl) ?_
           obtain ⟨xs4986, hu4988, hm4917⟩ := bind_some hm4917
           obtain ⟨ms4987, hu4989, hm4917⟩ := bind_some hm4917
           refine sStoreM (i := 0) (k := x4375) hf hs rfl rfl rfl rfl rfl rfl hi4957q hv4960 rfl hu4988 hu4989 ti2 ?_; clear hs; intro w hs
           obtain ⟨hq4990, hv4991⟩ := rowUpd hu4988 hu4989 hv4960
           have hs : St [] W w [.mat A10 n11 c12 28 2 vs14 ms4987] := hs
           refine wpO_nil ⟨Or.inl (by decide), ?_⟩
           refine mDone (by kernel_rfl) ?_
           clear hs0
           refine wpL_nil (Qb_normal ?_)
           refine wpL_region ?_
           refine sY hf hs rfl rfl rfl (Y_add rfl rfl rfl) ?_; clear hf; intro a hf
           refine sY hf hs rfl rfl rfl (Y_move rfl rfl) ?_; clear hf; intro a hf
           refine wpO_nil ?_
           refine wpL_nil (Ql_normal ?_)
           exact ⟨ms4987, (IntKind.i64.wrap (x4839 + 1)), hm4917, ((hn4838).trans (upd_len hu4989).symm), (FrD.pick (FrD.pick (FrD.pick (FrD.pick (FrD.pick (FrD.pick (FrD.pick (FrD.pick (FrD.pick hf.none hf rfl) hf rfl) hf rfl) hf rfl) hf rfl) hf rfl) hf rfl) hf rfl) hf rfl), hs⟩
          ·have hm4917 := bif_f hm4917 hb4919
           refine wpL_exit (Ql_exit (Qb_exit ?_))
           exact ⟨ms4837, Option.some.inj hm4917, hn4838, (FrD.pick (FrD.pick (FrD.pick (FrD.pick (FrD.pick (FrD.pick hf.none hf rfl) hf rfl) hf rfl) hf rfl) hf rfl) hf rfl), hs⟩
        ·rintro a w ⟨ms4913, hr_, hn4914, hf, hs⟩
         subst hr_
         try dsimp only at hm4685
         refine wpL_nil (Qb_normal ?_)
         refine wpL_region ?_
         refine sY hf hs rfl rfl rfl (Y_add rfl rfl rfl) ?_; clear hf; intro a hf
         refine sY hf hs rfl rfl rfl (Y_move rfl rfl) ?_; clear hf; intro a hf
         refine wpO_nil ?_
         refine wpL_nil (Ql_normal ?_)
         exact ⟨ms4913, (IntKind.i64.wrap (x4375 + 1)), hm4685, hn4914, (FrD.pick (FrD.pick (FrD.pick (FrD.pick (FrD.pick (FrD.pick hf.none hf rfl) hf rfl) hf rfl) hf rfl) hf rfl) hf rfl), hs⟩
       ·have hm4685 := bif_f hm4685 hb4687
        refine wpL_exit (Ql_exit (Qb_exit ?_))
        exact ⟨ms4373, Option.some.inj hm4685, hn4374, (FrD.pick (FrD.pick (FrD.pick hf.none hf rfl) hf rfl) hf rfl), hs⟩
     ·rintro a w ⟨ms4681, hr_, hn4682, hf, hs⟩
      subst hr_
      try dsimp only at hm3748
      refine wpL_nil (Qb_normal ?_)
      refine wpL_region ?_
      refine sY hf hs rfl rfl rfl (Y_add rfl rfl rfl) ?_; clear hf; intro a hf
      refine sY hf hs rfl rfl rfl (Y_move rfl rfl) ?_; clear hf; intro a hf
      refine wpO_nil ?_
      refine wpL_nil (Ql_normal ?_)
      exact ⟨ms4681, (IntKind.i64.wrap (x2502 + 1)), hm3748, hn4682, (FrD.pick (FrD.pick (FrD.pick hf.none hf rfl) hf rfl) hf rfl), hs⟩
   ·have hm3748 := bif_f hm3748 hb3750
    refine wpL_exit (Ql_exit (Qb_exit ?_))
    exact ⟨ms2500, Option.some.inj hm3748, hn2501, (FrD.pick hf.none hf rfl), hs⟩
 ·rintro a w ⟨ms3744, hr_, hn3745, hf, hs⟩
  subst hr_
  try dsimp only at hm
  refine wpL_seq <| wpL_seq <| wpL_region ?_
  refine sY hf hs rfl rfl rfl (Y_move rfl rfl) ?_; clear hf; intro a hf
  refine sY hf hs rfl rfl rfl (Y_lenH rfl rfl el40 hn3745) ?_; clear hf; intro a hf
  refine sY hf hs rfl rfl rfl (Y_move rfl rfl) ?_; clear hf; intro a hf
  refine wpO_nil ?_
  obtain ⟨r5021, hl5022, hm⟩ := bind_some hm
  refine wpL_block (fun a w => Sum.inr () = r5021 ∧ Fr a 84 [(4, .slice A10 n11 c12)] ∧ St [] W w [.mat A10 n11 c12 28 2 vs14 ms3744]) ?_ ?_
  ·refine wpL_loop (fun n a w => ∃ x5011 : Int, impl_starOf_L22 F ms3744 n x5011 = some r5021 ∧ Fr a 84 [(4, .slice A10 n11 c12), (70, .int .i64 (ms3744.length : Int)), (71, .int .i64 x5011)] ∧ St [] W w [.mat A10 n11 c12 28 2 vs14 ms3744]) F ?_ ?_ ?_
   ·exact ⟨0, hl5022, (FrD.pick (FrD.pick (FrD.pick hf.none hf rfl) hf rfl) hf rfl), hs⟩
   ·rintro a w ⟨x5011, h0_, -, -⟩; simp [impl_starOf_L22] at h0_
   ·rintro n5024 a w ⟨x5011, hm5023, hf, hs⟩
    rw [impl_starOf_L22] at hm5023
    refine wpL_seq <| wpL_region ?_
    refine sY hf hs rfl rfl rfl (Y_lss rfl rfl rfl) ?_; clear hf; intro a hf
    refine wpO_nil <| wpL_seq ?_
    refine wpL_cond hf rfl (fun hb5025 => ?_) (fun hb5025 => ?_)
    ·have hm5023 := bif_t hm5023 hb5025
     refine wpL_skip <| wpL_seq <| wpL_block0 <| wpL_seq <| wpL_region ?_
     refine sY hf hs rfl rfl rfl (Y_move rfl rfl) ?_; clear hf; intro a hf
     refine sY hf hs rfl rfl rfl (Y_assign rfl rfl) ?_; clear hf; intro a hf
     refine wpO_nil <| wpL_seq <| wpL_region ?_
     refine sY hf hs rfl rfl rfl (Y_move rfl rfl) ?_; clear hf; intro a hf
     refine sY hf hs rfl rfl rfl (Y_move rfl rfl) ?_; clear hf; intro a hf
     obtain ⟨q5026, hi5027, hm5023⟩ := bind_some hm5023
     obtain ⟨hi5027a, hi5027b, hi5027q⟩ := idx_some hi5027
     obtain ⟨A5028, c5029, hv5030⟩ := hs.matRow (i := 0) rfl hi5027q
     refine sY hf hs rfl rfl rfl (Y_index rfl rfl rfl el40 ti28 (Rd.isAt (hs.rdV (i := 0) rfl) hv5030) hi5027a (ltn hn3745 hi5027b)) ?_; clear hf; intro a hf
     refine sY hf hs rfl rfl rfl (Y_load_rd rfl rfl (fun w hs => hs.rdV (i := 0) rfl) (at1 hv5030) ag28) ?_; clear hf; intro a hf
     refine sY hf hs rfl rfl rfl (Y_move rfl rfl) ?_; clear hf; intro a hf
     obtain ⟨q5031, hi5032, hm5023⟩ := bind_some hm5023
     obtain ⟨hi5032a, hi5032b, hi5032q⟩ := idx_some hi5032
     refine sY hf hs rfl rfl rfl (Y_index rfl rfl rfl el28 ti2 (Rd.isAt (hs.rdRow (i := 0) rfl ⟨hi5027q, hv5030⟩) (at1 (ints_at hi5032q))) hi5032a hi5032b) ?_; clear hf; intro a hf
     refine sY hf hs rfl rfl rfl (Y_load_rd rfl rfl (fun w hs => hs.rdRow (i := 0) rfl ⟨hi5027q, hv5030⟩) (at1 (ints_at hi5032q)) ag2) ?_; clear hf; intro a hf
     refine sY hf hs rfl rfl rfl (Y_gtr rfl rfl rfl) ?_; clear hf; intro a hf
     refine wpO_nil ?_
     refine wpL_cond hf rfl (fun hb5033 => ?_) (fun hb5033 => ?_)
     ·have hm5023 := bif_t hm5023 hb5033
      refine wpL_seq <| wpL_region ?_
      refine sY hf hs rfl rfl rfl (Y_assign rfl rfl) ?_; clear hf; intro a hf
      refine sY hf hs rfl rfl rfl (Y_assign rfl rfl) ?_; clear hf; intro a hf
      refine wpO_nil ?_
      have hs : St [] W _ [.mat A10 n11 c12 28 2 vs14 ms3744, .mat none 0 0 28 2 [] ([] : List (List Int))] := hs.addNilM 28 2
      obtain rfl := Option.some.inj hm5023
      try dsimp only at hm
      obtain rfl := Option.some.inj hm
      refine wpL_ret (Qb_ret (Ql_ret (Qb_ret (ret_tmp2 rfl hf rfl rfl ?_))))
      exact ⟨_, rfl, none, 0, 0, [], rfl, rfl, hs.sel [1] (by decide)⟩
     ·have hm5023 := bif_f hm5023 hb5033
      refine wpL_skip ?_
      refine wpL_nil (Qb_normal ?_)
      refine wpL_region ?_
      refine sY hf hs rfl rfl rfl (Y_add rfl rfl rfl) ?_; clear hf; intro a hf
      refine sY hf hs rfl rfl rfl (Y_move rfl rfl) ?_; clear hf; intro a hf
      refine wpO_nil ?_
      refine wpL_nil (Ql_normal ?_)
      exact ⟨(IntKind.i64.wrap (x5011 + 1)), hm5023, (FrD.pick (FrD.pick (FrD.pick hf.none hf rfl) hf rfl) hf rfl), hs⟩
    ·have hm5023 := bif_f hm5023 hb5025
     refine wpL_exit (Ql_exit (Qb_exit ?_))
     exact ⟨Option.some.inj hm5023, (FrD.pick hf.none hf rfl), hs⟩
  ·rintro a w ⟨hr_, hf, hs⟩
   subst hr_
   try dsimp only at hm
   refine wpL_seq <| wpL_region ?_
   refine sY hf hs rfl rfl rfl (Y_move rfl rfl) ?_; clear hf; intro a hf
   refine sY hf hs rfl rfl rfl (Y_assign rfl rfl) ?_; clear hf; intro a hf
   refine sY hf hs rfl rfl rfl (Y_assign rfl rfl) ?_; clear hf; intro a hf
   refine wpO_nil ?_
   obtain rfl := Option.some.inj hm
   refine wpL_ret (ret_tmp2 rfl hf rfl rfl ?_)
   exact ⟨_, rfl, A10, n11, c12, vs14, rfl, hn3745, hs⟩

set_option maxRecDepth 100000 in
theorem impl_timesVector_ok (F : Nat) (aw : List (List Int)) (av : Option Addr) (aO az : Nat) (aS : aO = aw.length) (cq : List Int) (cf : Option Addr) (cI cn : Nat) (cQ : cI = cq.length) (r : List Int) (W : World) (hm : impl_timesVector F aw cq = some r) (aP : RdM W av aw) (cJ : Rd W cf (ints cq)) :
  Calls Try.prog 137 [.slice av aO az, .slice cf cI cn].toArray W fun e w' => ∃ v, e = .returned v ∧ ∃ A488, ∃ n489, ∃ c490, v = .slice A488 n489 c490 ∧ n489 = r.length ∧ St [] W w' [.row A488 n489 c490 2 1 (ints r)] := by
 subst aS
 subst cQ
 unfold impl_timesVector at hm
 refine Calls.enter (N := 47) Try.func137 rfl rfl rfl (fun a hf => ?_)
 have hs := St.start W
 obtain ⟨w, hw_⟩ : ∃ w, w = W := ⟨W, rfl⟩
 clear hw_ w
 refine wpL_seq <| wpL_region ?_
 refine sY hf hs rfl rfl rfl (Y_assign rfl rfl) ?_; clear hf; intro a hf
 refine wpO_nil <| wpL_seq <| wpL_region ?_
 refine sY hf hs rfl rfl rfl (Y_move rfl rfl) ?_; clear hf; intro a hf
 refine sY hf hs rfl rfl rfl (Y_lenH rfl rfl el40 rfl) ?_; clear hf; intro a hf
 obtain ⟨xs3, hk2, hm⟩ := bind_some hm
 refine sMakeL (enc := ints) hf hs rfl rfl rfl rfl rfl hk2 el28 ti2 rfl ints_made ?_; clear hf hs; intro a w A1 hs hf
 have hs : St [] W w [.row A1 xs3.length xs3.length 2 1 (ints xs3)] := hs
 refine sY hf hs rfl rfl rfl (Y_assign rfl rfl) ?_; clear hf; intro a hf
 refine wpO_nil <| wpL_seq <| wpL_seq <| wpL_region ?_
 refine sY hf hs rfl rfl rfl (Y_move rfl rfl) ?_; clear hf; intro a hf
 refine sY hf hs rfl rfl rfl (Y_lenH rfl rfl el40 rfl) ?_; clear hf; intro a hf
 refine sY hf hs rfl rfl rfl (Y_move rfl rfl) ?_; clear hf; intro a hf
 refine wpO_nil ?_
 obtain ⟨r366, hl367, hm⟩ := bind_some hm
 refine wpL_block (fun a w => ∃ xs364 : List Int, xs364 = r366 ∧ xs3.length = xs364.length ∧ Fr a 47 [(5, .slice A1 xs3.length xs3.length)] ∧ St [] W w [.row A1 xs3.length xs3.length 2 1 (ints xs364)]) ?_ ?_
 ·refine wpL_loop (fun n a w => ∃ xs243 : List Int, ∃ x245 : Int, impl_timesVector_L4 F aw cq n xs243 x245 = some r366 ∧ xs3.length = xs243.length ∧ Fr a 47 [(1, .slice cf cq.length cn), (5, .slice A1 xs3.length xs3.length), (13, .slice av aw.length az), (14, .int .i64 (aw.length : Int)), (15, .int .i64 x245)] ∧ St [] W w [.row A1 xs3.length xs3.length 2 1 (ints xs243)]) F ?_ ?_ ?_
  ·exact ⟨xs3, 0, hl367, rfl, (FrD.pick (FrD.pick (FrD.pick (FrD.pick (FrD.pick hf.none hf rfl) hf rfl) hf rfl) hf rfl) hf rfl), hs⟩
  ·rintro a w ⟨xs243, x245, h0_, -, -, -⟩; simp [impl_timesVector_L4] at h0_
  ·rintro n369 a w ⟨xs243, x245, hm368, hn244, hf, hs⟩
   rw [impl_timesVector_L4] at hm368
   refine wpL_seq <| wpL_region ?_
   refine sY hf hs rfl rfl rfl (Y_lss rfl rfl rfl) ?_; clear hf; intro a hf
   refine wpO_nil <| wpL_seq ?_
   refine wpL_cond hf rfl (fun hb370 => ?_) (fun hb370 => ?_)
   ·have hm368 := bif_t hm368 hb370
    refine wpL_skip <| wpL_seq <| wpL_block0 <| wpL_seq <| wpL_region ?_
    refine sY hf hs rfl rfl rfl (Y_move rfl rfl) ?_; clear hf; intro a hf
    obtain ⟨q371, hi372, hm368⟩ := bind_some hm368
    obtain ⟨hi372a, hi372b, hi372q⟩ := idx_some hi372
    obtain ⟨vs373, hv374, hr375⟩ := id aP
    obtain ⟨A376, c377, hv378, hR379⟩ := hr375 _ _ hi372q
    refine sY hf hs rfl rfl rfl (Y_index rfl rfl rfl el40 ti28 (Rd.isAt hv374 hv378) hi372a hi372b) ?_; clear hf; intro a hf
    refine sY hf hs rfl rfl rfl (Y_load_rd rfl rfl (fun w hs => hv374.at hs) (at1 hv378) ag28) ?_; clear hf; intro a hf
    refine sY hf hs rfl rfl rfl (Y_assign rfl rfl) ?_; clear hf; intro a hf
    refine sY hf hs rfl rfl rfl (Y_assign rfl rfl) ?_; clear hf; intro a hf
    refine wpO_nil <| wpL_seq <| wpL_region ?_
    refine sY hf hs rfl rfl rfl (Y_move rfl rfl) ?_; clear hf; intro a hf
    refine sY hf hs rfl rfl rfl (Y_move rfl rfl) ?_; clear hf; intro a hf
    obtain ⟨q380, hi381, hm368⟩ := bind_some hm368
    obtain ⟨hi381a, hi381b, hi381q⟩ := idx_some hi381
    refine sY hf hs rfl rfl rfl (Y_index rfl rfl rfl el28 ti2 (Rd.isAt (hs.rd (i := 0) rfl) (at1 (ints_at hi381q))) hi381a (ltn hn244 hi381b)) ?_; clear hf; intro a hf
    obtain ⟨xs382, hu383, hm368⟩ := bind_some hm368
    refine sStoreL (i := 0) (us := [.int .i64 (-1000000000000000)]) (enc := ints) hf hs rfl rfl rfl rfl rfl rfl hn244 hu383 ti2 rfl rfl rfl rfl rfl ints_len1 (ints_set (-1000000000000000)) ?_; clear hs; intro w hs
    have hs : St [] W w [.row A1 xs3.length xs3.length 2 1 (ints xs382)] := hs
    refine wpO_nil <| wpL_seq <| wpL_region ?_
    refine sY hf hs rfl rfl rfl (Y_move rfl rfl) ?_; clear hf; intro a hf
    refine sY hf hs rfl rfl rfl (Y_lenH rfl rfl el28 rfl) ?_; clear hf; intro a hf
    refine sY hf hs rfl rfl rfl (Y_move rfl rfl) ?_; clear hf; intro a hf
    refine wpO_nil ?_
    obtain ⟨r461, hl462, hm368⟩ := bind_some hm368
    refine wpL_block (fun a w => ∃ xs459 : List Int, xs459 = r461 ∧ xs3.length = xs459.length ∧ Fr a 47 [(1, .slice cf cq.length cn), (5, .slice A1 xs3.length xs3.length), (13, .slice av aw.length az), (14, .int .i64 (aw.length : Int)), (15, .int .i64 x245)] ∧ St [] W w [.row A1 xs3.length xs3.length 2 1 (ints xs459)]) ?_ ?_
    ·refine wpL_loop (fun n a w => ∃ xs433 : List Int, ∃ x435 : Int, impl_timesVector_L5 F cq x245 q371 n xs433 x435 = some r461 ∧ xs3.length = xs433.length ∧ Fr a 47 [(1, .slice cf cq.length cn), (5, .slice A1 xs3.length xs3.length), (6, .int .i64 x245), (13, .slice av aw.length az), (14, .int .i64 (aw.length : Int)), (15, .int .i64 x245), (23, .slice A376 q371.length c377), (24, .int .i64 (q371.length : Int)), (25, .int .i64 x435)] ∧ St [] W w [.row A1 xs3.length xs3.length 2 1 (ints xs433)]) F ?_ ?_ ?_
     ·exact ⟨xs382, 0, hl462, ((hn244).trans (upd_len hu383).symm), (FrD.pick (FrD.pick (FrD.pick (FrD.pick (FrD.pick (FrD.pick (FrD.pick (FrD.pick (FrD.pick hf.none hf rfl) hf rfl) hf rfl) hf rfl) hf rfl) hf rfl) hf rfl) hf rfl) hf rfl), hs⟩
     ·rintro a w ⟨xs433, x435, h0_, -, -, -⟩; simp [impl_timesVector_L5] at h0_
     ·rintro n464 a w ⟨xs433, x435, hm463, hn434, hf, hs⟩
      rw [impl_timesVector_L5] at hm463
      refine wpL_seq <| wpL_region ?_
      refine sY hf hs rfl rfl rfl (Y_lss rfl rfl rfl) ?_; clear hf; intro a hf
      refine wpO_nil <| wpL_seq ?_
      refine wpL_cond hf rfl (fun hb465 => ?_) (fun hb465 => ?_)
      ·have hm463 := bif_t hm463 hb465
       refine wpL_skip <| wpL_seq <| wpL_block0 <| wpL_seq <| wpL_region ?_
       refine sY hf hs rfl rfl rfl (Y_move rfl rfl) ?_; clear hf; intro a hf
       obtain ⟨q466, hi467, hm463⟩ := bind_some hm463
       obtain ⟨hi467a, hi467b, hi467q⟩ := idx_some hi467
       refine sY hf hs rfl rfl rfl (Y_index rfl rfl rfl el28 ti2 (Rd.isAt (hR379.at hs) (at1 (ints_at hi467q))) hi467a hi467b) ?_; clear hf; intro a hf
       refine sY hf hs rfl rfl rfl (Y_load_rd rfl rfl (fun w hs => hR379.at hs) (at1 (ints_at hi467q)) ag2) ?_; clear hf; intro a hf
       refine sY hf hs rfl rfl rfl (Y_assign rfl rfl) ?_; clear hf; intro a hf
       refine sY hf hs rfl rfl rfl (Y_assign rfl rfl) ?_; clear hf; intro a hf
       refine wpO_nil ?_
       refine wpL_drawM [.row A1 xs3.length xs3.length 2 1 (ints xs433)] [14] (by kernel_rfl) hs ?_; clear hs; intro w hs
       have hs0 : St [] W w [.row A1 xs3.length xs3.length 2 1 (ints xs433)] := hs
       refine mYp (i := 0) rfl (by kernel_rfl) (by kernel_rfl) hf rfl rfl rfl (fun _ => Y_move rfl rfl) ?_; clear hf; intro a hf
       refine mYp (i := 1) rfl (by kernel_rfl) (by kernel_rfl) hf rfl rfl rfl (fun _ => Y_move rfl rfl) ?_; clear hf; intro a hf
       refine mYp (i := 2) rfl (by kernel_rfl) (by kernel_rfl) hf rfl rfl rfl (fun _ => Y_move rfl rfl) ?_; clear hf; intro a hf
       refine mYp (i := 3) rfl (by kernel_rfl) (by kernel_rfl) hf rfl rfl rfl (fun _ => Y_move rfl rfl) ?_; clear hf; intro a hf
       obtain ⟨q478, hi479, hm463⟩ := bind_some hm463
       obtain ⟨hi479a, hi479b, hi479q⟩ := idx_some hi479
       refine mYp (i := 4) rfl (by kernel_rfl) (by kernel_rfl) hf rfl rfl rfl (fun _ => Y_index rfl rfl rfl el28 ti2 (Rd.isAt (hs.rd (i := 0) rfl) (at1 (ints_at hi479q))) hi479a (ltn hn434 hi479b)) ?_; clear hf; intro a hf
       refine mY (i := 5) [[]] rfl (by kernel_rfl) (by kernel_rfl) hf hs0 rfl rfl rfl (Y_load_rd rfl rfl (fun w hs => hs.rd (i := 0) rfl) (at1 (ints_at hi479q)) ag2) ?_; clear hf; intro a hf
       refine mYp (i := 6) rfl (by kernel_rfl) (by kernel_rfl) hf rfl rfl rfl (fun _ => Y_move rfl rfl) ?_; clear hf; intro a hf
       refine mYp (i := 7) rfl (by kernel_rfl) (by kernel_rfl) hf rfl rfl rfl (fun _ => Y_move rfl rfl) ?_; clear hf; intro a hf
       refine mYp (i := 8) rfl (by kernel_rfl) (by kernel_rfl) hf rfl rfl rfl (fun _ => Y_move rfl rfl) ?_; clear hf; intro a hf
       obtain ⟨q480, hi481, hm463⟩ := bind_some hm463
       obtain ⟨hi481a, hi481b, hi481q⟩ := idx_some hi481
       refine mYp (i := 9) rfl (by kernel_rfl) (by kernel_rfl) hf rfl rfl rfl (fun _ => Y_index rfl rfl rfl el28 ti2 (Rd.isAt (cJ.at hs) (at1 (ints_at hi481q))) hi481a hi481b) ?_; clear hf; intro a hf
       refine mY (i := 10) [[]] rfl (by kernel_rfl) (by kernel_rfl) hf hs0 rfl rfl rfl (Y_load_rd rfl rfl (fun w hs => cJ.at hs) (at1 (ints_at hi481q)) ag2) ?_; clear hf; intro a hf
       refine mRun (i := 11) rfl (by kernel_rfl) ?_
       obtain ⟨r482, hc483, hm463⟩ := bind_some hm463
       refine sCall hf rfl rfl rfl rfl (cap := []) rfl rfl en145 (impl_times_ok F q466 q480 _ _ hc483) ?_; clear hf
       rintro _ w ⟨rfl, hs1⟩ a hf
       have hs : St [] W w [.row A1 xs3.length xs3.length 2 1 (ints xs433)] := hs.ext hs1.below
       clear hs1
       have hs0 : St [] W w [.row A1 xs3.length xs3.length 2 1 (ints xs433)] := hs
       refine wpO_nil ⟨Or.inr (fun _ => hs0), ?_⟩
       refine mYp (i := 12) rfl (by kernel_rfl) (by kernel_rfl) hf rfl rfl rfl (fun _ => Y_max rfl rfl rfl) ?_; clear hf; intro a hf
       obtain ⟨q484, hi485, hm463⟩ := bind_some hm463
       obtain ⟨hi485a, hi485b, hi485q⟩ := idx_some hi485
       refine mYp (i := 13) rfl (by kernel_rfl) (by kernel_rfl) hf rfl rfl rfl (fun _ => Y_index rfl rfl rfl el28 ti2 (Rd.isAt (hs.rd (i := 0) rfl) (at1 (ints_at hi485q))) hi485a (ltn hn434 hi485b)) ?_; clear hf; intro a hf
       refine mRun (i := 14) rfl (by kernel_rfl) ?_
       obtain ⟨xs486, hu487, hm463⟩ := bind_some hm463
       refine sStoreL (i := 0) (us := [.int .i64 (max q478 r482)]) (enc := ints) hf hs rfl rfl rfl rfl rfl rfl hn434 hu487 ti2 rfl rfl rfl rfl rfl ints_len1 (ints_set (max q478 r482)) ?_; clear hs; intro w hs
       have hs : St [] W w [.row A1 xs3.length xs3.length 2 1 (ints xs486)] := hs
       refine wpO_nil ⟨Or.inl (by decide), ?_⟩
       refine mDone (by kernel_rfl) ?_
       clear hs0
       refine wpL_nil (Qb_normal ?_)
       refine wpL_region ?_
       refine sY hf hs rfl rfl rfl (Y_add rfl rfl rfl) ?_; clear hf; intro a hf
       refine sY hf hs rfl rfl rfl (Y_move rfl rfl) ?_; clear hf; intro a hf
       refine wpO_nil ?_
       refine wpL_nil (Ql_normal ?_)
       exact ⟨xs486, (IntKind.i64.wrap (x435 + 1)), hm463, ((hn434).trans (upd_len hu487).symm), (FrD.pick (FrD.pick (FrD.pick (FrD.pick (FrD.pick (FrD.pick (FrD.pick (FrD.pick (FrD.pick hf.none hf rfl) hf rfl) hf rfl) hf rfl) hf rfl) hf rfl) hf rfl) hf rfl) hf rfl), hs⟩
      ·have hm463 := bif_f hm463 hb465
       refine wpL_exit (Ql_exit (Qb_exit ?_))
       exact ⟨xs433, Option.some.inj hm463, hn434, (FrD.pick (FrD.pick (FrD.pick (FrD.pick (FrD.pick hf.none hf rfl) hf rfl) hf rfl) hf rfl) hf rfl), hs⟩
    ·rintro a w ⟨xs459, hr_, hn460, hf, hs⟩
     subst hr_
     try dsimp only at hm368
     refine wpL_nil (Qb_normal ?_)
     refine wpL_region ?_
     refine sY hf hs rfl rfl rfl (Y_add rfl rfl rfl) ?_; clear hf; intro a hf
     refine sY hf hs rfl rfl rfl (Y_move rfl rfl) ?_; clear hf; intro a hf
     refine wpO_nil ?_
     refine wpL_nil (Ql_normal ?_)
     exact ⟨xs459, (IntKind.i64.wrap (x245 + 1)), hm368, hn460, (FrD.pick (FrD.pick (FrD.pick (FrD.pick (FrD.pick hf.none hf rfl) hf rfl) hf rfl) hf rfl) hf rfl), hs⟩
   ·have hm368 := bif_f hm368 hb370
    refine wpL_exit (Ql_exit (Qb_exit ?_))
    exact ⟨xs243, Option.some.inj hm368, hn244, (FrD.pick hf.none hf rfl), hs⟩
 ·rintro a w ⟨xs364, hr_, hn365, hf, hs⟩
  subst hr_
  try dsimp only at hm
  refine wpL_seq <| wpL_region ?_
  refine sY hf hs rfl rfl rfl (Y_move rfl rfl) ?_; clear hf; intro a hf
  refine sY hf hs rfl rfl rfl (Y_assign rfl rfl) ?_; clear hf; intro a hf
  refine wpO_nil ?_
  obtain rfl := Option.some.inj hm
  refine wpL_ret (ret_tmp rfl hf rfl ?_)
  exact ⟨_, rfl, A1, xs3.length, xs3.length, rfl, hn365, hs⟩

set_option maxRecDepth 100000 in
theorem impl_timePotential_ok (F : Nat) (ag : GEventGraph) (ah : Option Addr) (ax aj : Nat) (aC : ax = ag.Places.length) (aA : GRatio) (r : List Int × Bool) (W : World) (hm : impl_timePotential F ag aA = some r) (ay : Rd W ah ((recs GPlace.cells) ag.Places)) :
  Calls Try.prog 127 [.agg #[.int .i64 ag.Events, .slice ah ax aj], .agg #[.int .i64 aA.Num, .int .i64 aA.Den]].toArray W fun e w' => ∃ v, e = .returned v ∧ ∃ A28, ∃ n29, ∃ c30, v = .tuple #[.slice A28 n29 c30, .bool r.2] ∧ n29 = r.1.length ∧ St [] W w' [.row A28 n29 c30 2 1 (ints r.1)] := by
 subst aC
 unfold impl_timePotential at hm
 refine Calls.enter (N := 22) Try.func127 rfl rfl rfl (fun a hf => ?_)
 have hs := St.start W
 obtain ⟨w, hw_⟩ : ∃ w, w = W := ⟨W, rfl⟩
 clear hw_ w
 refine wpL_seq <| wpL_region ?_
 refine sBox hf hs rfl rfl rfl rfl rfl (cs := [.int .i64 ag.Events, .slice ah ag.Places.length aj]) rfl ?_; clear hf hs; intro a w b1 hs hf
 have hs : St [] W w [.blk b1 55 [.int .i64 ag.Events, .slice ah ag.Places.length aj]] := hs
 refine sBox hf hs rfl rfl rfl rfl rfl (cs := [.int .i64 aA.Num, .int .i64 aA.Den]) rfl ?_; clear hf hs; intro a w b2 hs hf
 have hs : St [] W w [.blk b1 55 [.int .i64 ag.Events, .slice ah ag.Places.length aj], .blk b2 129 [.int .i64 aA.Num, .int .i64 aA.Den]] := hs
 refine sY hf hs rfl rfl rfl (Y_assign rfl rfl) ?_; clear hf; intro a hf
 refine sY hf hs rfl rfl rfl (Y_assign rfl rfl) ?_; clear hf; intro a hf
 refine wpO_nil <| wpL_seq <| wpL_region ?_
 refine sY hf hs rfl rfl rfl (Y_load_blkS rfl rfl (i := 0) rfl ag55 ti55 rfl) ?_; clear hf; intro a hf
 refine sY hf hs rfl rfl rfl (Y_load_blkS rfl rfl (i := 1) rfl ag129 ti129 rfl) ?_; clear hf; intro a hf
 obtain ⟨r3, hc4, hm⟩ := bind_some hm
 refine sCall hf rfl rfl rfl rfl (cap := []) rfl rfl en194 (impl_weightMatrix_ok F ag ah ag.Places.length aj rfl aA _ _ hc4 (ay.at hs)) ?_; clear hf
 rintro _ w ⟨A5, n6, c7, vs9, rfl, hn8, hs1⟩ a hf
 have hs : St [] W w [.blk b1 55 [.int .i64 ag.Events, .slice ah ag.Places.length aj], .blk b2 129 [.int .i64 aA.Num, .int .i64 aA.Den], .mat A5 n6 c7 28 2 vs9 r3] := hs.join hs1
 clear hs1
 obtain ⟨r10, hc11, hm⟩ := bind_some hm
 refine sCall hf rfl rfl rfl rfl (cap := []) rfl rfl en80 (impl_starOf_ok F r3 A5 n6 c7 hn8 _ _ hc11 (hs.rdM (i := 2) rfl)) ?_; clear hf
 rintro _ w ⟨A12, n13, c14, vs16, rfl, hn15, hs1⟩ a hf
 have hs : St [] W w [.blk b1 55 [.int .i64 ag.Events, .slice ah ag.Places.length aj], .blk b2 129 [.int .i64 aA.Num, .int .i64 aA.Den], .mat A5 n6 c7 28 2 vs9 r3, .mat A12 n13 c14 28 2 vs16 r10.1] := hs.join hs1
 clear hs1
 refine sY hf hs rfl rfl rfl (Y_move rfl rfl) ?_; clear hf; intro a hf
 refine sY hf hs rfl rfl rfl (Y_extract rfl rfl rfl) ?_; clear hf; intro a hf
 refine sY hf hs rfl rfl rfl (Y_extract rfl rfl rfl) ?_; clear hf; intro a hf
 refine sY hf hs rfl rfl rfl (Y_assign rfl rfl) ?_; clear hf; intro a hf
 refine sY hf hs rfl rfl rfl (Y_assign rfl rfl) ?_; clear hf; intro a hf
 refine wpO_nil <| wpL_seq <| wpL_seq <| wpL_region ?_
 refine sY hf hs rfl rfl rfl (Y_move rfl rfl) ?_; clear hf; intro a hf
 refine sY hf hs rfl rfl rfl (Y_not rfl rfl) ?_; clear hf; intro a hf
 refine wpO_nil ?_
 refine wpL_cond hf rfl (fun hb17 => ?_) (fun hb17 => ?_)
 ·have hm := bif_t hm hb17
  refine wpL_seq <| wpL_region ?_
  refine sY hf hs rfl rfl rfl (Y_assign rfl rfl) ?_; clear hf; intro a hf
  refine sY hf hs rfl rfl rfl (Y_assign rfl rfl) ?_; clear hf; intro a hf
  refine wpO_nil ?_
  have hs : St [] W _ [.blk b1 55 [.int .i64 ag.Events, .slice ah ag.Places.length aj], .blk b2 129 [.int .i64 aA.Num, .int .i64 aA.Den], .mat A5 n6 c7 28 2 vs9 r3, .mat A12 n13 c14 28 2 vs16 r10.1, .row none 0 0 2 1 (ints ([] : List Int))] := hs.addNil 2 1
  obtain rfl := Option.some.inj hm
  refine wpL_ret (ret_tmp2 rfl hf rfl rfl ?_)
  exact ⟨_, rfl, none, 0, 0, rfl, rfl, hs.sel [4] (by decide)⟩
 ·have hm := bif_f hm hb17
  refine wpL_skip <| wpL_seq <| wpL_region ?_
  refine sY hf hs rfl rfl rfl (Y_move rfl rfl) ?_; clear hf; intro a hf
  refine sY hf hs rfl rfl rfl (Y_fieldAddr rfl rfl fo55_0) ?_; clear hf; intro a hf
  refine sY hf hs rfl rfl rfl (Y_load_blk rfl rfl (i := 0) rfl rfl ag2) ?_; clear hf; intro a hf
  obtain ⟨xs21, hk20, hm⟩ := bind_some hm
  refine sMakeL (enc := ints) hf hs rfl rfl rfl rfl rfl hk20 el28 ti2 rfl ints_made ?_; clear hf hs; intro a w A19 hs hf
  have hs : St [] W w [.blk b1 55 [.int .i64 ag.Events, .slice ah ag.Places.length aj], .blk b2 129 [.int .i64 aA.Num, .int .i64 aA.Den], .mat A5 n6 c7 28 2 vs9 r3, .mat A12 n13 c14 28 2 vs16 r10.1, .row A19 xs21.length xs21.length 2 1 (ints xs21)] := hs
  obtain ⟨r22, hc23, hm⟩ := bind_some hm
  refine sCall hf rfl rfl rfl rfl (cap := []) rfl rfl en137 (impl_timesVector_ok F r10.1 A12 n13 c14 hn15 xs21 A19 xs21.length xs21.length rfl _ _ hc23 (hs.rdM (i := 3) rfl) (hs.rd (i := 4) rfl)) ?_; clear hf
  rintro _ w ⟨A24, n25, c26, rfl, hn27, hs1⟩ a hf
  have hs : St [] W w [.blk b1 55 [.int .i64 ag.Events, .slice ah ag.Places.length aj], .blk b2 129 [.int .i64 aA.Num, .int .i64 aA.Den], .mat A5 n6 c7 28 2 vs9 r3, .mat A12 n13 c14 28 2 vs16 r10.1, .row A19 xs21.length xs21.length 2 1 (ints xs21), .row A24 n25 c26 2 1 (ints r22)] := hs.join hs1
  clear hs1
  refine sY hf hs rfl rfl rfl (Y_assign rfl rfl) ?_; clear hf; intro a hf
  refine sY hf hs rfl rfl rfl (Y_assign rfl rfl) ?_; clear hf; intro a hf
  refine wpO_nil ?_
  obtain rfl := Option.some.inj hm
  refine wpL_ret (ret_tmp2 rfl hf rfl rfl ?_)
  exact ⟨_, rfl, A24, n25, c26, rfl, hn27, hs.sel [5] (by decide)⟩

end Go.Proofs.Ytebmlphobgaboab
