/- The functions do what their models say. -/
import Derived.Test.YtebmlphobgaboabTasksLifted2
import Derived.Test.YtebmlphobgaboabRows
namespace Go.Proofs.Ytebmlphobgaboab
open Go.RowKit

set_option maxRecDepth 100000 in
theorem spec_l08Sub_ok (F : Nat) (p0_a : List (List Int)) (A_p0_a_1 : Option Addr) (n_p0_a_1 c_p0_a_1 : Nat) (hn_p0_a_1 : n_p0_a_1 = p0_a.length) (p1_b : List Int) (A_p1_b_1 : Option Addr) (n_p1_b_1 c_p1_b_1 : Nat) (hn_p1_b_1 : n_p1_b_1 = p1_b.length) (r : List Int) (W : World) (hm : spec_l08Sub F p0_a p1_b = some r) (h_p0_a_1 : RdM W A_p0_a_1 p0_a) (h_p1_b_1 : Rd W A_p1_b_1 (ints p1_b)) :
    Calls Try.prog 124 [.slice A_p0_a_1 n_p0_a_1 c_p0_a_1, .slice A_p1_b_1 n_p1_b_1 c_p1_b_1].toArray W fun e w' => ∃ v, e = .returned v ∧ ∃ A1844, ∃ n1845, ∃ c1846, v = .slice A1844 n1845 c1846 ∧ n1845 = r.length ∧ St [] W w' [.row A1844 n1845 c1846 2 1 (ints r)] := by
  subst hn_p0_a_1
  subst hn_p1_b_1
  unfold spec_l08Sub at hm
  refine Calls.enter (N := 64) Try.func124 rfl rfl rfl (fun a hf => ?_)
  have hs := St.start W
  obtain ⟨w, hw_⟩ : ∃ w, w = W := ⟨W, rfl⟩
  clear hw_ w
  refine wpL_seq ?_
  refine wpL_region ?_
  refine sY hf hs rfl rfl rfl (Y_assign rfl rfl) ?_; clear hf; intro a hf
  refine wpO_nil ?_
  refine wpL_seq ?_
  refine wpL_region ?_
  refine sEmpty hf hs rfl rfl rfl rfl el28 ti2 ?_; clear hf hs; intro a w A1 hs hf
  have hs : St [] W w [.row A1 0 0 2 1 (ints ([] : List Int))] := hs
  refine sY hf hs rfl rfl rfl (Y_assign rfl rfl) ?_; clear hf; intro a hf
  refine wpO_nil ?_
  refine wpL_seq ?_
  refine wpL_seq ?_
  refine wpL_region ?_
  refine sY hf hs rfl rfl rfl (Y_assign rfl rfl) ?_; clear hf; intro a hf
  refine wpO_nil ?_
  obtain ⟨r1385, hl1386, hm⟩ := bind_some hm
  refine wpL_block (fun a w => ∃ xs1380 : List Int, ∃ A1381, ∃ n1382, ∃ c1383, xs1380 = r1385 ∧ n1382 = xs1380.length ∧ Fr a 64 [(5, .slice A1381 n1382 c1383)] ∧ St [] W w [.row A1381 n1382 c1383 2 1 (ints xs1380)]) ?_ ?_
  · refine wpL_loop (fun n a w => ∃ xs919 : List Int, ∃ x924 : Int, ∃ A920, ∃ n921, ∃ c922, spec_l08Sub_L4 F p0_a p1_b n xs919 x924 = some r1385 ∧ n921 = xs919.length ∧ Fr a 64 [(0, .slice A_p0_a_1 p0_a.length c_p0_a_1), (1, .slice A_p1_b_1 p1_b.length c_p1_b_1), (5, .slice A920 n921 c922), (6, .int .i64 x924)] ∧ St [] W w [.row A920 n921 c922 2 1 (ints xs919)]) F ?_ ?_ ?_
    · exact ⟨([] : List Int), 0, A1, 0, 0, hl1386, rfl, (FrD.pick (FrD.pick (FrD.pick (FrD.pick hf.none hf rfl) hf rfl) hf rfl) hf rfl), hs⟩
    · rintro a w ⟨xs919, x924, A920, n921, c922, h0_, -, -, -⟩; simp [spec_l08Sub_L4] at h0_
    · rintro n1388 a w ⟨xs919, x924, A920, n921, c922, hm1387, hn923, hf, hs⟩
      rw [spec_l08Sub_L4] at hm1387
      refine wpL_seq ?_
      refine wpL_seq ?_
      refine wpL_region ?_
      refine sY hf hs rfl rfl rfl (Y_move rfl rfl) ?_; clear hf; intro a hf
      refine sY hf hs rfl rfl rfl (Y_move rfl rfl) ?_; clear hf; intro a hf
      obtain ⟨q1389, hi1390, hm1387⟩ := bind_some hm1387
      obtain ⟨hi1390a, hi1390b, hi1390q⟩ := idx_some hi1390
      obtain ⟨vs1391, hv1392, hr1393⟩ := id h_p0_a_1
      obtain ⟨A1394, c1395, hv1396, hR1397⟩ := hr1393 _ _ hi1390q
      refine sY hf hs rfl rfl rfl (Y_index rfl rfl rfl el40 ti28 (Rd.isAt hv1392 hv1396) hi1390a hi1390b) ?_; clear hf; intro a hf
      refine sY hf hs rfl rfl rfl (Y_load_rd rfl rfl (fun w hs => hv1392.at hs) (at1 hv1396) ag28) ?_; clear hf; intro a hf
      refine sY hf hs rfl rfl rfl (Y_lenH rfl rfl el28 rfl) ?_; clear hf; intro a hf
      refine sY hf hs rfl rfl rfl (Y_lss rfl rfl rfl) ?_; clear hf; intro a hf
      refine wpO_nil ?_
      refine wpL_cond hf rfl (fun hb1398 => ?_) (fun hb1398 => ?_)
      · have hm1387 := bif_t hm1387 hb1398
        refine wpL_skip ?_
        refine wpL_seq ?_
        refine wpL_block0 ?_
        refine wpL_seq ?_
        refine wpL_region ?_
        refine sY hf hs rfl rfl rfl (Y_assign rfl rfl) ?_; clear hf; intro a hf
        refine sY hf hs rfl rfl rfl (Y_assign rfl rfl) ?_; clear hf; intro a hf
        refine wpO_nil ?_
        refine wpL_seq ?_
        refine wpL_seq ?_
        refine wpL_region ?_
        refine sY hf hs rfl rfl rfl (Y_assign rfl rfl) ?_; clear hf; intro a hf
        refine wpO_nil ?_
        obtain ⟨r1727, hl1728, hm1387⟩ := bind_some hm1387
        refine wpL_block (fun a w => ∃ x1726 : Int, x1726 = r1727 ∧ Fr a 64 [(0, .slice A_p0_a_1 p0_a.length c_p0_a_1), (1, .slice A_p1_b_1 p1_b.length c_p1_b_1), (5, .slice A920 n921 c922), (6, .int .i64 x924), (7, .int .i64 x1726)] ∧ St [] W w [.row A920 n921 c922 2 1 (ints xs919)]) ?_ ?_
        · refine wpL_loop (fun n a w => ∃ x1616 : Int, ∃ b1617 : Bool, ∃ x1618 : Int, spec_l08Sub_L5 F p0_a p1_b x924 n x1616 b1617 x1618 = some r1727 ∧ Fr a 64 [(0, .slice A_p0_a_1 p0_a.length c_p0_a_1), (1, .slice A_p1_b_1 p1_b.length c_p1_b_1), (5, .slice A920 n921 c922), (6, .int .i64 x924), (7, .int .i64 x1616), (8, .bool b1617), (9, .int .i64 x1618)] ∧ St [] W w [.row A920 n921 c922 2 1 (ints xs919)]) F ?_ ?_ ?_
          · exact ⟨0, false, 0, hl1728, (FrD.pick (FrD.pick (FrD.pick (FrD.pick (FrD.pick (FrD.pick (FrD.pick hf.none hf rfl) hf rfl) hf rfl) hf rfl) hf rfl) hf rfl) hf rfl), hs⟩
          · rintro a w ⟨x1616, b1617, x1618, h0_, -, -⟩; simp [spec_l08Sub_L5] at h0_
          · rintro n1730 a w ⟨x1616, b1617, x1618, hm1729, hf, hs⟩
            rw [spec_l08Sub_L5] at hm1729
            refine wpL_seq ?_
            refine wpL_seq ?_
            refine wpL_region ?_
            refine sY hf hs rfl rfl rfl (Y_move rfl rfl) ?_; clear hf; intro a hf
            refine sY hf hs rfl rfl rfl (Y_move rfl rfl) ?_; clear hf; intro a hf
            refine sY hf hs rfl rfl rfl (Y_lenH rfl rfl el40 rfl) ?_; clear hf; intro a hf
            refine sY hf hs rfl rfl rfl (Y_lss rfl rfl rfl) ?_; clear hf; intro a hf
            refine wpO_nil ?_
            refine wpL_cond hf rfl (fun hb1731 => ?_) (fun hb1731 => ?_)
            · have hm1729 := bif_t hm1729 hb1731
              refine wpL_skip ?_
              refine wpL_seq ?_
              obtain ⟨r1785, hj1786, hm1729⟩ := bind_some hm1729
              refine wpL_block (fun a w => ∃ x1783 : Int, ∃ b1784 : Bool, (x1783, b1784) = r1785 ∧ Fr a 64 [(0, .slice A_p0_a_1 p0_a.length c_p0_a_1), (1, .slice A_p1_b_1 p1_b.length c_p1_b_1), (5, .slice A920 n921 c922), (6, .int .i64 x924), (7, .int .i64 x1783), (8, .bool b1784), (9, .int .i64 x1618)] ∧ St [] W w [.row A920 n921 c922 2 1 (ints xs919)]) ?_ ?_
              · refine wpL_seq ?_
                refine wpL_seq ?_
                refine wpL_region ?_
                refine sY hf hs rfl rfl rfl (Y_move rfl rfl) ?_; clear hf; intro a hf
                refine sY hf hs rfl rfl rfl (Y_move rfl rfl) ?_; clear hf; intro a hf
                obtain ⟨q1787, hi1788, hj1786⟩ := bind_some hj1786
                obtain ⟨hi1788a, hi1788b, hi1788q⟩ := idx_some hi1788
                obtain ⟨vs1789, hv1790, hr1791⟩ := id h_p0_a_1
                obtain ⟨A1792, c1793, hv1794, hR1795⟩ := hr1791 _ _ hi1788q
                refine sY hf hs rfl rfl rfl (Y_index rfl rfl rfl el40 ti28 (Rd.isAt hv1790 hv1794) hi1788a hi1788b) ?_; clear hf; intro a hf
                refine sY hf hs rfl rfl rfl (Y_load_rd rfl rfl (fun w hs => hv1790.at hs) (at1 hv1794) ag28) ?_; clear hf; intro a hf
                refine sY hf hs rfl rfl rfl (Y_move rfl rfl) ?_; clear hf; intro a hf
                obtain ⟨q1796, hi1797, hj1786⟩ := bind_some hj1786
                obtain ⟨hi1797a, hi1797b, hi1797q⟩ := idx_some hi1797
                refine sY hf hs rfl rfl rfl (Y_index rfl rfl rfl el28 ti2 (Rd.isAt (hR1795.at hs) (at1 (ints_at hi1797q))) hi1797a hi1797b) ?_; clear hf; intro a hf
                refine sY hf hs rfl rfl rfl (Y_load_rd rfl rfl (fun w hs => hR1795.at hs) (at1 (ints_at hi1797q)) ag2) ?_; clear hf; intro a hf
                refine sY hf hs rfl rfl rfl (Y_eql rfl rfl rfl) ?_; clear hf; intro a hf
                refine wpO_nil ?_
                refine wpL_cond hf rfl (fun hb1798 => ?_) (fun hb1798 => ?_)
                · have hj1786 := bif_t hj1786 hb1798
                  refine wpL_exit (Qb_exit ?_)
                  exact ⟨x1616, b1617, Option.some.inj hj1786, (FrD.pick (FrD.pick (FrD.pick (FrD.pick (FrD.pick (FrD.pick (FrD.pick hf.none hf rfl) hf rfl) hf rfl) hf rfl) hf rfl) hf rfl) hf rfl), hs⟩
                · have hj1786 := bif_f hj1786 hb1798
                  refine wpL_skip ?_
                  refine wpL_seq ?_
                  refine wpL_region ?_
                  refine sY hf hs rfl rfl rfl (Y_assign rfl rfl) ?_; clear hf; intro a hf
                  refine wpO_nil ?_
                  refine wpL_seq ?_
                  refine wpL_seq ?_
                  refine wpL_region ?_
                  refine sY hf hs rfl rfl rfl (Y_move rfl rfl) ?_; clear hf; intro a hf
                  refine sY hf hs rfl rfl rfl (Y_move rfl rfl) ?_; clear hf; intro a hf
                  obtain ⟨q1799, hi1800, hj1786⟩ := bind_some hj1786
                  obtain ⟨hi1800a, hi1800b, hi1800q⟩ := idx_some hi1800
                  refine sY hf hs rfl rfl rfl (Y_index rfl rfl rfl el28 ti2 (Rd.isAt (h_p1_b_1.at hs) (at1 (ints_at hi1800q))) hi1800a hi1800b) ?_; clear hf; intro a hf
                  refine sY hf hs rfl rfl rfl (Y_load_rd rfl rfl (fun w hs => h_p1_b_1.at hs) (at1 (ints_at hi1800q)) ag2) ?_; clear hf; intro a hf
                  refine sY hf hs rfl rfl rfl (Y_neq rfl rfl rfl) ?_; clear hf; intro a hf
                  refine wpO_nil ?_
                  obtain ⟨r1816, hj1817, hj1786⟩ := bind_some hj1786
                  refine wpL_cut (fun a w => ∃ x1815 : Int, x1815 = r1816 ∧ Fr a 64 [(0, .slice A_p0_a_1 p0_a.length c_p0_a_1), (1, .slice A_p1_b_1 p1_b.length c_p1_b_1), (5, .slice A920 n921 c922), (6, .int .i64 x924), (7, .int .i64 x1616), (8, .bool b1617), (9, .int .i64 x1618), (10, .int .i64 x1815)] ∧ St [] W w [.row A920 n921 c922 2 1 (ints xs919)]) ?_ ?_
                  · refine wpL_cond hf rfl (fun hb1818 => ?_) (fun hb1818 => ?_)
                    · have hj1817 := bif_t hj1817 hb1818
                      refine wpL_draw (by kernel_rfl) (by kernel_rfl) hs ?_
                      refine qY hf rfl rfl rfl (Y_move rfl rfl) ?_; clear hf; intro a hf
                      refine qY hf rfl rfl rfl (Y_move rfl rfl) ?_; clear hf; intro a hf
                      obtain ⟨q1819, hi1820, hj1817⟩ := bind_some hj1817
                      obtain ⟨hi1820a, hi1820b, hi1820q⟩ := idx_some hi1820
                      refine qY hf rfl rfl rfl (Y_index rfl rfl rfl el28 ti2 (Rd.isAt (h_p1_b_1.at hs) (at1 (ints_at hi1820q))) hi1820a hi1820b) ?_; clear hf; intro a hf
                      refine qY hf rfl rfl rfl (Y_load_rd rfl rfl (fun w hs => h_p1_b_1.at hs) (at1 (ints_at hi1820q)) ag2) ?_; clear hf; intro a hf
                      refine qY hf rfl rfl rfl (Y_move rfl rfl) ?_; clear hf; intro a hf
                      refine qY hf rfl rfl rfl (Y_move rfl rfl) ?_; clear hf; intro a hf
                      obtain ⟨q1821, hi1822, hj1817⟩ := bind_some hj1817
                      obtain ⟨hi1822a, hi1822b, hi1822q⟩ := idx_some hi1822
                      obtain ⟨vs1823, hv1824, hr1825⟩ := id h_p0_a_1
                      obtain ⟨A1826, c1827, hv1828, hR1829⟩ := hr1825 _ _ hi1822q
                      refine qY hf rfl rfl rfl (Y_index rfl rfl rfl el40 ti28 (Rd.isAt hv1824 hv1828) hi1822a hi1822b) ?_; clear hf; intro a hf
                      refine qY hf rfl rfl rfl (Y_load_rd rfl rfl (fun w hs => hv1824.at hs) (at1 hv1828) ag28) ?_; clear hf; intro a hf
                      refine qY hf rfl rfl rfl (Y_move rfl rfl) ?_; clear hf; intro a hf
                      obtain ⟨q1830, hi1831, hj1817⟩ := bind_some hj1817
                      obtain ⟨hi1831a, hi1831b, hi1831q⟩ := idx_some hi1831
                      refine qY hf rfl rfl rfl (Y_index rfl rfl rfl el28 ti2 (Rd.isAt (hR1829.at hs) (at1 (ints_at hi1831q))) hi1831a hi1831b) ?_; clear hf; intro a hf
                      refine qY hf rfl rfl rfl (Y_load_rd rfl rfl (fun w hs => hR1829.at hs) (at1 (ints_at hi1831q)) ag2) ?_; clear hf; intro a hf
                      refine qY hf rfl rfl rfl (Y_sub rfl rfl rfl) ?_; clear hf; intro a hf
                      refine qY hf rfl rfl rfl (Y_assign rfl rfl) ?_; clear hf; intro a hf
                      refine qNil ?_; clear hs; intro w hs
                      refine wpL_nil (then_normal ?_)
                      exact ⟨(IntKind.i64.wrap (q1819 - q1830)), Option.some.inj hj1817, (FrD.pick (FrD.pick (FrD.pick (FrD.pick (FrD.pick (FrD.pick (FrD.pick (FrD.pick hf.none hf rfl) hf rfl) hf rfl) hf rfl) hf rfl) hf rfl) hf rfl) hf rfl), hs⟩
                    · have hj1817 := bif_f hj1817 hb1818
                      refine wpL_skip ?_
                      refine wpL_nil (then_normal ?_)
                      exact ⟨(-1000000000000000), Option.some.inj hj1817, (FrD.pick (FrD.pick (FrD.pick (FrD.pick (FrD.pick (FrD.pick (FrD.pick (FrD.pick hf.none hf rfl) hf rfl) hf rfl) hf rfl) hf rfl) hf rfl) hf rfl) hf rfl), hs⟩
                  · rintro a w ⟨x1815, hr_, hf, hs⟩
                    subst hr_
                    try dsimp only at hj1786
                    refine wpL_seq ?_
                    obtain ⟨r1834, hj1835, hj1786⟩ := bind_some hj1786
                    refine wpL_cut (fun a w => ∃ b1833 : Bool, b1833 = r1834 ∧ Fr a 64 [(0, .slice A_p0_a_1 p0_a.length c_p0_a_1), (1, .slice A_p1_b_1 p1_b.length c_p1_b_1), (5, .slice A920 n921 c922), (6, .int .i64 x924), (7, .int .i64 x1616), (8, .bool b1617), (9, .int .i64 x1618), (10, .int .i64 x1815), (57, .bool b1833)] ∧ St [] W w [.row A920 n921 c922 2 1 (ints xs919)]) ?_ ?_
                    · refine wpL_region ?_
                      refine sY hf hs rfl rfl rfl (Y_move rfl rfl) ?_; clear hf; intro a hf
                      refine sY hf hs rfl rfl rfl (Y_not rfl rfl) ?_; clear hf; intro a hf
                      refine sY hf hs rfl rfl rfl (Y_move rfl rfl) ?_; clear hf; intro a hf
                      refine bsplit (!b1617) (fun hb1836 => ?_) (fun hb1836 => ?_)
                      · have hj1835 := bif_t hj1835 hb1836
                        refine sNo hf rfl rfl rfl (congrArg (fun b => some (Value.bool b)) hb1836) rfl rfl rfl ?_; clear hf; intro a hf
                        refine sNo hf rfl rfl rfl (congrArg (fun b => some (Value.bool b)) hb1836) rfl rfl rfl ?_; clear hf; intro a hf
                        refine sNo hf rfl rfl rfl (congrArg (fun b => some (Value.bool b)) hb1836) rfl rfl rfl ?_; clear hf; intro a hf
                        refine sY hf hs rfl rfl rfl (Y_pickT rfl (congrArg (fun b => some (Value.bool b)) hb1836) rfl) ?_; clear hf; intro a hf
                        refine wpO_nil ?_
                        refine wpL_nil (then_normal ?_)
                        exact ⟨true, Option.some.inj hj1835, (FrD.pick (FrD.pick (FrD.pick (FrD.pick (FrD.pick (FrD.pick (FrD.pick (FrD.pick (FrD.pick hf.none hf rfl) hf rfl) hf rfl) hf rfl) hf rfl) hf rfl) hf rfl) hf rfl) hf rfl), hs⟩
                      · have hj1835 := bif_f hj1835 hb1836
                        refine sYg hf hs rfl rfl rfl (congrArg (fun b => some (Value.bool b)) hb1836) rfl rfl rfl (Y_move rfl rfl) ?_; clear hf; intro a hf
                        refine sYg hf hs rfl rfl rfl (congrArg (fun b => some (Value.bool b)) hb1836) rfl rfl rfl (Y_move rfl rfl) ?_; clear hf; intro a hf
                        refine sYg hf hs rfl rfl rfl (congrArg (fun b => some (Value.bool b)) hb1836) rfl rfl rfl (Y_lss rfl rfl rfl) ?_; clear hf; intro a hf
                        refine sY hf hs rfl rfl rfl (Y_pickF rfl (congrArg (fun b => some (Value.bool b)) hb1836) rfl) ?_; clear hf; intro a hf
                        refine wpO_nil ?_
                        refine wpL_nil (then_normal ?_)
                        exact ⟨(decide (x1815 < x1616)), Option.some.inj hj1835, (FrD.pick (FrD.pick (FrD.pick (FrD.pick (FrD.pick (FrD.pick (FrD.pick (FrD.pick (FrD.pick hf.none hf rfl) hf rfl) hf rfl) hf rfl) hf rfl) hf rfl) hf rfl) hf rfl) hf rfl), hs⟩
                    · rintro a w ⟨b1833, hr_, hf, hs⟩
                      subst hr_
                      try dsimp only at hj1786
                      refine wpL_cond hf rfl (fun hb1837 => ?_) (fun hb1837 => ?_)
                      · have hj1786 := bif_t hj1786 hb1837
                        refine wpL_seq ?_
                        refine wpL_region ?_
                        refine sY hf hs rfl rfl rfl (Y_move rfl rfl) ?_; clear hf; intro a hf
                        refine sY hf hs rfl rfl rfl (Y_assign rfl rfl) ?_; clear hf; intro a hf
                        refine wpO_nil ?_
                        refine wpL_region ?_
                        refine sY hf hs rfl rfl rfl (Y_assign rfl rfl) ?_; clear hf; intro a hf
                        refine wpO_nil ?_
                        refine wpL_nil (Qb_normal ?_)
                        exact ⟨x1815, true, Option.some.inj hj1786, (FrD.pick (FrD.pick (FrD.pick (FrD.pick (FrD.pick (FrD.pick (FrD.pick hf.none hf rfl) hf rfl) hf rfl) hf rfl) hf rfl) hf rfl) hf rfl), hs⟩
                      · have hj1786 := bif_f hj1786 hb1837
                        refine wpL_skip ?_
                        refine wpL_nil (Qb_normal ?_)
                        exact ⟨x1616, b1617, Option.some.inj hj1786, (FrD.pick (FrD.pick (FrD.pick (FrD.pick (FrD.pick (FrD.pick (FrD.pick hf.none hf rfl) hf rfl) hf rfl) hf rfl) hf rfl) hf rfl) hf rfl), hs⟩
              · rintro a w ⟨x1783, b1784, hr_, hf, hs⟩
                subst hr_
                try dsimp only at hm1729
                refine wpL_region ?_
                refine sY hf hs rfl rfl rfl (Y_move rfl rfl) ?_; clear hf; intro a hf
                refine sY hf hs rfl rfl rfl (Y_add rfl rfl rfl) ?_; clear hf; intro a hf
                refine sY hf hs rfl rfl rfl (Y_assign rfl rfl) ?_; clear hf; intro a hf
                refine wpO_nil ?_
                refine wpL_nil (Ql_normal ?_)
                exact ⟨x1783, b1784, (IntKind.i64.wrap (x1618 + 1)), hm1729, (FrD.pick (FrD.pick (FrD.pick (FrD.pick (FrD.pick (FrD.pick (FrD.pick hf.none hf rfl) hf rfl) hf rfl) hf rfl) hf rfl) hf rfl) hf rfl), hs⟩
            · have hm1729 := bif_f hm1729 hb1731
              refine wpL_exit (Ql_exit (Qb_exit ?_))
              exact ⟨x1616, Option.some.inj hm1729, (FrD.pick (FrD.pick (FrD.pick (FrD.pick (FrD.pick hf.none hf rfl) hf rfl) hf rfl) hf rfl) hf rfl), hs⟩
        · rintro a w ⟨x1726, hr_, hf, hs⟩
          subst hr_
          try dsimp only at hm1387
          refine wpL_region ?_
          refine sY hf hs rfl rfl rfl (Y_move rfl rfl) ?_; clear hf; intro a hf
          refine sY hf hs rfl rfl rfl (Y_move rfl rfl) ?_; clear hf; intro a hf
          refine sBuildSlice (parts := [(0, .tmp 60)]) (vs := [.int .i64 x1726]) (cells := [.int .i64 x1726]) hf hs rfl rfl rfl rfl rfl el28 ti2 rfl rfl rfl rfl ?_; clear hf hs; intro a w A1838 hs hA1839 hf
          have hs : St [] W w [.row A920 n921 c922 2 1 (ints xs919), .row A1838 1 1 2 1 (ints ([x1726]))] := hs
          obtain ⟨xs1842, ha1843, hm1387⟩ := bind_some hm1387
          refine sAppendL (i := 0) (xs := xs919) (ys := [x1726]) (enc := ints) hf hs rfl rfl rfl rfl rfl rfl hn923 rfl rfl ha1843 el28 ti2 rfl rfl rfl (hs.rd (i := 1) rfl) (Nat.succ_pos _) ints_len1 ints_append ints_one ?_; clear hf hs; intro a w A1840 c1841 hs hf
          have hs : St [] W w [.row A1840 xs1842.length c1841 2 1 (ints xs1842), .row A1838 1 1 2 1 (ints ([x1726]))] := hs
          refine sY hf hs rfl rfl rfl (Y_assign rfl rfl) ?_; clear hf; intro a hf
          refine wpO_nil ?_
          refine wpL_nil (Qb_normal ?_)
          refine wpL_region ?_
          refine sY hf hs rfl rfl rfl (Y_move rfl rfl) ?_; clear hf; intro a hf
          refine sY hf hs rfl rfl rfl (Y_add rfl rfl rfl) ?_; clear hf; intro a hf
          refine sY hf hs rfl rfl rfl (Y_assign rfl rfl) ?_; clear hf; intro a hf
          refine wpO_nil ?_
          refine wpL_nil (Ql_normal ?_)
          exact ⟨xs1842, (IntKind.i64.wrap (x924 + 1)), A1840, xs1842.length, c1841, hm1387, rfl, (FrD.pick (FrD.pick (FrD.pick (FrD.pick hf.none hf rfl) hf rfl) hf rfl) hf rfl), hs.sel [0] (by decide)⟩
      · have hm1387 := bif_f hm1387 hb1398
        refine wpL_exit (Ql_exit (Qb_exit ?_))
        exact ⟨xs919, A920, n921, c922, Option.some.inj hm1387, hn923, (FrD.pick hf.none hf rfl), hs⟩
  · rintro a w ⟨xs1380, A1381, n1382, c1383, hr_, hn1384, hf, hs⟩
    subst hr_
    try dsimp only at hm
    refine wpL_seq ?_
    refine wpL_region ?_
    refine sY hf hs rfl rfl rfl (Y_move rfl rfl) ?_; clear hf; intro a hf
    refine sY hf hs rfl rfl rfl (Y_assign rfl rfl) ?_; clear hf; intro a hf
    refine wpO_nil ?_
    obtain rfl := Option.some.inj hm
    refine wpL_ret (ret_tmp rfl hf rfl ?_)
    exact ⟨_, rfl, A1381, n1382, c1383, rfl, hn1384, hs⟩

set_option maxRecDepth 100000 in
theorem spec_l23Solve_ok (F : Nat) (p0 : List GWindow) (A_p0_1 : Option Addr) (n_p0_1 c_p0_1 : Nat) (hn_p0_1 : n_p0_1 = p0.length) (p1 : List GBond) (A_p1_1 : Option Addr) (n_p1_1 c_p1_1 : Nat) (hn_p1_1 : n_p1_1 = p1.length) (p2 : Bool) (r : List Int) (W : World) (hm : spec_l23Solve F p0 p1 p2 = some r) (h_p0_1 : Rd W A_p0_1 ((recs GWindow.cells) p0)) (h_p1_1 : Rd W A_p1_1 ((recs GBond.cells) p1)) :
    Calls Try.prog 68 [.slice A_p0_1 n_p0_1 c_p0_1, .slice A_p1_1 n_p1_1 c_p1_1, .bool p2].toArray W fun e w' => ∃ v, e = .returned v ∧ ∃ A251, ∃ n252, ∃ c253, v = .slice A251 n252 c253 ∧ n252 = r.length ∧ St [] W w' [.row A251 n252 c253 2 1 (ints r)] := by
  subst hn_p0_1
  subst hn_p1_1
  unfold spec_l23Solve at hm
  refine Calls.enter (N := 83) Try.func68 rfl rfl rfl (fun a hf => ?_)
  have hs := St.start W
  obtain ⟨w, hw_⟩ : ∃ w, w = W := ⟨W, rfl⟩
  clear hw_ w
  refine wpL_seq ?_
  refine wpL_region ?_
  refine sY hf hs rfl rfl rfl (Y_assign rfl rfl) ?_; clear hf; intro a hf
  refine wpO_nil ?_
  refine wpL_seq ?_
  refine wpL_region ?_
  refine sY hf hs rfl rfl rfl (Y_move rfl rfl) ?_; clear hf; intro a hf
  refine sY hf hs rfl rfl rfl (Y_lenH rfl rfl el24 rfl) ?_; clear hf; intro a hf
  refine sY hf hs rfl rfl rfl (Y_move rfl rfl) ?_; clear hf; intro a hf
  obtain ⟨r1, hc2, hm⟩ := bind_some hm
  refine sCall hf rfl rfl rfl rfl (cap := []) rfl rfl en139 (spec_l23Matrix_ok F (p0.length : Int) p1 A_p1_1 p1.length c_p1_1 rfl _ _ hc2 (h_p1_1.at hs)) ?_; clear hf
  rintro _ w ⟨A3, n4, c5, vs7, rfl, hn6, hs1⟩ a hf
  have hs : St [] W w [.mat A3 n4 c5 28 2 vs7 r1] := hs.join hs1
  clear hs1
  obtain ⟨r8, hc9, hm⟩ := bind_some hm
  refine sCall hf rfl rfl rfl rfl (cap := []) rfl rfl en83 (spec_l03Star_ok F r1 A3 n4 c5 hn6 _ _ hc9 (hs.rdM (i := 0) rfl)) ?_; clear hf
  rintro _ w ⟨A10, n11, c12, vs14, rfl, hn13, hs1⟩ a hf
  have hs : St [] W w [.mat A3 n4 c5 28 2 vs7 r1, .mat A10 n11 c12 28 2 vs14 r8.1] := hs.join hs1
  clear hs1
  refine sY hf hs rfl rfl rfl (Y_move rfl rfl) ?_; clear hf; intro a hf
  refine sY hf hs rfl rfl rfl (Y_extract rfl rfl rfl) ?_; clear hf; intro a hf
  refine sY hf hs rfl rfl rfl (Y_extract rfl rfl rfl) ?_; clear hf; intro a hf
  refine sY hf hs rfl rfl rfl (Y_assign rfl rfl) ?_; clear hf; intro a hf
  refine sY hf hs rfl rfl rfl (Y_assign rfl rfl) ?_; clear hf; intro a hf
  refine wpO_nil ?_
  refine wpL_seq ?_
  refine wpL_seq ?_
  refine wpL_region ?_
  refine sY hf hs rfl rfl rfl (Y_move rfl rfl) ?_; clear hf; intro a hf
  refine sY hf hs rfl rfl rfl (Y_not rfl rfl) ?_; clear hf; intro a hf
  refine wpO_nil ?_
  refine wpL_cond hf rfl (fun hb15 => ?_) (fun hb15 => ?_)
  · have hm := bif_t hm hb15
    refine wpL_seq ?_
    refine wpL_region ?_
    refine sY hf hs rfl rfl rfl (Y_assign rfl rfl) ?_; clear hf; intro a hf
    refine wpO_nil ?_
    have hs : St [] W _ [.mat A3 n4 c5 28 2 vs7 r1, .mat A10 n11 c12 28 2 vs14 r8.1, .row none 0 0 2 1 (ints ([] : List Int))] := hs.addNil 2 1
    obtain rfl := Option.some.inj hm
    refine wpL_ret (ret_tmp rfl hf rfl ?_)
    exact ⟨_, rfl, none, 0, 0, rfl, rfl, hs.sel [2] (by decide)⟩
  · have hm := bif_f hm hb15
    refine wpL_skip ?_
    refine wpL_seq ?_
    refine wpL_region ?_
    refine sEmpty hf hs rfl rfl rfl rfl el28 ti2 ?_; clear hf hs; intro a w A17 hs hf
    have hs : St [] W w [.mat A3 n4 c5 28 2 vs7 r1, .mat A10 n11 c12 28 2 vs14 r8.1, .row A17 0 0 2 1 (ints ([] : List Int))] := hs
    refine sEmpty hf hs rfl rfl rfl rfl el28 ti2 ?_; clear hf hs; intro a w A19 hs hf
    have hs : St [] W w [.mat A3 n4 c5 28 2 vs7 r1, .mat A10 n11 c12 28 2 vs14 r8.1, .row A17 0 0 2 1 (ints ([] : List Int)), .row A19 0 0 2 1 (ints ([] : List Int))] := hs
    refine sY hf hs rfl rfl rfl (Y_assign rfl rfl) ?_; clear hf; intro a hf
    refine sY hf hs rfl rfl rfl (Y_assign rfl rfl) ?_; clear hf; intro a hf
    refine wpO_nil ?_
    refine wpL_seq ?_
    refine wpL_seq ?_
    refine wpL_region ?_
    refine sY hf hs rfl rfl rfl (Y_assign rfl rfl) ?_; clear hf; intro a hf
    refine wpO_nil ?_
    obtain ⟨r104, hl105, hm⟩ := bind_some hm
    refine wpL_block (fun a w => ∃ xs94 : List Int, ∃ xs99 : List Int, ∃ A95, ∃ n96, ∃ c97, ∃ A100, ∃ n101, ∃ c102, (xs94, xs99) = r104 ∧ n96 = xs94.length ∧ n101 = xs99.length ∧ Fr a 83 [(2, .bool p2), (7, .slice A10 n11 c12), (9, .slice A95 n96 c97), (10, .slice A100 n101 c102)] ∧ St [] W w [.mat A10 n11 c12 28 2 vs14 r8.1, .row A95 n96 c97 2 1 (ints xs94), .row A100 n101 c102 2 1 (ints xs99)]) ?_ ?_
    · refine wpL_loop (fun n a w => ∃ xs66 : List Int, ∃ xs71 : List Int, ∃ x76 : Int, ∃ A67, ∃ n68, ∃ c69, ∃ A72, ∃ n73, ∃ c74, spec_l23Solve_L1 F p0 n xs66 xs71 x76 = some r104 ∧ n68 = xs66.length ∧ n73 = xs71.length ∧ Fr a 83 [(0, .slice A_p0_1 p0.length c_p0_1), (2, .bool p2), (7, .slice A10 n11 c12), (9, .slice A67 n68 c69), (10, .slice A72 n73 c74), (11, .int .i64 x76)] ∧ St [] W w [.mat A10 n11 c12 28 2 vs14 r8.1, .row A67 n68 c69 2 1 (ints xs66), .row A72 n73 c74 2 1 (ints xs71)]) F ?_ ?_ ?_
      · exact ⟨([] : List Int), ([] : List Int), 0, A17, 0, 0, A19, 0, 0, hl105, rfl, rfl, (FrD.pick (FrD.pick (FrD.pick (FrD.pick (FrD.pick (FrD.pick hf.none hf rfl) hf rfl) hf rfl) hf rfl) hf rfl) hf rfl), hs.sel [1, 2, 3] (by decide)⟩
      · rintro a w ⟨xs66, xs71, x76, A67, n68, c69, A72, n73, c74, h0_, -, -, -, -⟩; simp [spec_l23Solve_L1] at h0_
      · rintro n107 a w ⟨xs66, xs71, x76, A67, n68, c69, A72, n73, c74, hm106, hn70, hn75, hf, hs⟩
        rw [spec_l23Solve_L1] at hm106
        refine wpL_seq ?_
        refine wpL_seq ?_
        refine wpL_region ?_
        refine sY hf hs rfl rfl rfl (Y_move rfl rfl) ?_; clear hf; intro a hf
        refine sY hf hs rfl rfl rfl (Y_move rfl rfl) ?_; clear hf; intro a hf
        refine sY hf hs rfl rfl rfl (Y_lenH rfl rfl el24 rfl) ?_; clear hf; intro a hf
        refine sY hf hs rfl rfl rfl (Y_lss rfl rfl rfl) ?_; clear hf; intro a hf
        refine wpO_nil ?_
        refine wpL_cond hf rfl (fun hb108 => ?_) (fun hb108 => ?_)
        · have hm106 := bif_t hm106 hb108
          refine wpL_skip ?_
          refine wpL_seq ?_
          refine wpL_block0 ?_
          refine wpL_seq ?_
          refine wpL_region ?_
          refine sY hf hs rfl rfl rfl (Y_move rfl rfl) ?_; clear hf; intro a hf
          refine sY hf hs rfl rfl rfl (Y_move rfl rfl) ?_; clear hf; intro a hf
          refine sY hf hs rfl rfl rfl (Y_move rfl rfl) ?_; clear hf; intro a hf
          obtain ⟨q109, hi110, hm106⟩ := bind_some hm106
          obtain ⟨hi110a, hi110b, hi110q⟩ := idx_some hi110
          refine sY hf hs rfl rfl rfl (Y_index rfl rfl rfl el24 ti39 (Rd.isAt (h_p0_1.at hs) (recs_at (s := 2) GWindow.len hi110q (j := 0) rfl)) hi110a hi110b) ?_; clear hf; intro a hf
          refine sY hf hs rfl rfl rfl (Y_fieldAddrE rfl rfl fo39_0) ?_; clear hf; intro a hf
          refine sY hf hs rfl rfl rfl (Y_load_rd rfl rfl (fun w hs => h_p0_1.at hs) (recs_at (s := 2) GWindow.len hi110q (j := 0) rfl) ag2) ?_; clear hf; intro a hf
          refine sBuildSlice (parts := [(0, .tmp 37)]) (vs := [.int .i64 q109.Low]) (cells := [.int .i64 q109.Low]) hf hs rfl rfl rfl rfl rfl el28 ti2 rfl rfl rfl rfl ?_; clear hf hs; intro a w A111 hs hA112 hf
          have hs : St [] W w [.mat A10 n11 c12 28 2 vs14 r8.1, .row A67 n68 c69 2 1 (ints xs66), .row A72 n73 c74 2 1 (ints xs71), .row A111 1 1 2 1 (ints ([q109.Low]))] := hs
          obtain ⟨xs115, ha116, hm106⟩ := bind_some hm106
          refine sAppendL (i := 1) (xs := xs66) (ys := [q109.Low]) (enc := ints) hf hs rfl rfl rfl rfl rfl rfl hn70 rfl rfl ha116 el28 ti2 rfl rfl rfl (hs.rd (i := 3) rfl) (Nat.succ_pos _) ints_len1 ints_append ints_one ?_; clear hf hs; intro a w A113 c114 hs hf
          have hs : St [] W w [.mat A10 n11 c12 28 2 vs14 r8.1, .row A113 xs115.length c114 2 1 (ints xs115), .row A72 n73 c74 2 1 (ints xs71), .row A111 1 1 2 1 (ints ([q109.Low]))] := hs
          refine sY hf hs rfl rfl rfl (Y_assign rfl rfl) ?_; clear hf; intro a hf
          refine wpO_nil ?_
          refine wpL_region ?_
          refine sY hf hs rfl rfl rfl (Y_move rfl rfl) ?_; clear hf; intro a hf
          refine sY hf hs rfl rfl rfl (Y_move rfl rfl) ?_; clear hf; intro a hf
          refine sY hf hs rfl rfl rfl (Y_move rfl rfl) ?_; clear hf; intro a hf
          obtain ⟨q117, hi118, hm106⟩ := bind_some hm106
          obtain ⟨hi118a, hi118b, hi118q⟩ := idx_some hi118
          refine sY hf hs rfl rfl rfl (Y_index rfl rfl rfl el24 ti39 (Rd.isAt (h_p0_1.at hs) (recs_at (s := 2) GWindow.len hi118q (j := 0) rfl)) hi118a hi118b) ?_; clear hf; intro a hf
          refine sY hf hs rfl rfl rfl (Y_fieldAddrE rfl rfl fo39_1) ?_; clear hf; intro a hf
          refine sY hf hs rfl rfl rfl (Y_load_rd rfl rfl (fun w hs => h_p0_1.at hs) (recs_at (s := 2) GWindow.len hi118q (j := 1) rfl) ag2) ?_; clear hf; intro a hf
          refine sBuildSlice (parts := [(0, .tmp 45)]) (vs := [.int .i64 q117.High]) (cells := [.int .i64 q117.High]) hf hs rfl rfl rfl rfl rfl el28 ti2 rfl rfl rfl rfl ?_; clear hf hs; intro a w A119 hs hA120 hf
          have hs : St [] W w [.mat A10 n11 c12 28 2 vs14 r8.1, .row A113 xs115.length c114 2 1 (ints xs115), .row A72 n73 c74 2 1 (ints xs71), .row A111 1 1 2 1 (ints ([q109.Low])), .row A119 1 1 2 1 (ints ([q117.High]))] := hs
          obtain ⟨xs123, ha124, hm106⟩ := bind_some hm106
          refine sAppendL (i := 2) (xs := xs71) (ys := [q117.High]) (enc := ints) hf hs rfl rfl rfl rfl rfl rfl hn75 rfl rfl ha124 el28 ti2 rfl rfl rfl (hs.rd (i := 4) rfl) (Nat.succ_pos _) ints_len1 ints_append ints_one ?_; clear hf hs; intro a w A121 c122 hs hf
          have hs : St [] W w [.mat A10 n11 c12 28 2 vs14 r8.1, .row A113 xs115.length c114 2 1 (ints xs115), .row A121 xs123.length c122 2 1 (ints xs123), .row A111 1 1 2 1 (ints ([q109.Low])), .row A119 1 1 2 1 (ints ([q117.High]))] := hs
          refine sY hf hs rfl rfl rfl (Y_assign rfl rfl) ?_; clear hf; intro a hf
          refine wpO_nil ?_
          refine wpL_nil (Qb_normal ?_)
          refine wpL_region ?_
          refine sY hf hs rfl rfl rfl (Y_move rfl rfl) ?_; clear hf; intro a hf
          refine sY hf hs rfl rfl rfl (Y_add rfl rfl rfl) ?_; clear hf; intro a hf
          refine sY hf hs rfl rfl rfl (Y_assign rfl rfl) ?_; clear hf; intro a hf
          refine wpO_nil ?_
          refine wpL_nil (Ql_normal ?_)
          exact ⟨xs115, xs123, (IntKind.i64.wrap (x76 + 1)), A113, xs115.length, c114, A121, xs123.length, c122, hm106, rfl, rfl, (FrD.pick (FrD.pick (FrD.pick (FrD.pick (FrD.pick (FrD.pick hf.none hf rfl) hf rfl) hf rfl) hf rfl) hf rfl) hf rfl), hs.sel [0, 1, 2] (by decide)⟩
        · have hm106 := bif_f hm106 hb108
          refine wpL_exit (Ql_exit (Qb_exit ?_))
          exact ⟨xs66, xs71, A67, n68, c69, A72, n73, c74, Option.some.inj hm106, hn70, hn75, (FrD.pick (FrD.pick (FrD.pick (FrD.pick hf.none hf rfl) hf rfl) hf rfl) hf rfl), hs⟩
    · rintro a w ⟨xs94, xs99, A95, n96, c97, A100, n101, c102, hr_, hn98, hn103, hf, hs⟩
      subst hr_
      try dsimp only at hm
      refine wpL_seq ?_
      refine wpL_region ?_
      refine sY hf hs rfl rfl rfl (Y_move rfl rfl) ?_; clear hf; intro a hf
      refine sY hf hs rfl rfl rfl (Y_move rfl rfl) ?_; clear hf; intro a hf
      obtain ⟨r125, hc126, hm⟩ := bind_some hm
      refine sCall hf rfl rfl rfl rfl (cap := []) rfl rfl en140 (spec_l02Apply_ok F r8.1 A10 n11 c12 hn13 xs94 A95 n96 c97 hn98 _ _ hc126 (hs.rdM (i := 0) rfl) (hs.rd (i := 1) rfl)) ?_; clear hf
      rintro _ w ⟨A127, n128, c129, rfl, hn130, hs1⟩ a hf
      have hs : St [] W w [.mat A10 n11 c12 28 2 vs14 r8.1, .row A95 n96 c97 2 1 (ints xs94), .row A100 n101 c102 2 1 (ints xs99), .row A127 n128 c129 2 1 (ints r125)] := hs.join hs1
      clear hs1
      refine sY hf hs rfl rfl rfl (Y_assign rfl rfl) ?_; clear hf; intro a hf
      refine wpO_nil ?_
      refine wpL_seq ?_
      refine wpL_seq ?_
      refine wpL_region ?_
      refine sY hf hs rfl rfl rfl (Y_move rfl rfl) ?_; clear hf; intro a hf
      refine sY hf hs rfl rfl rfl (Y_not rfl rfl) ?_; clear hf; intro a hf
      refine wpO_nil ?_
      obtain ⟨r143, hj144, hm⟩ := bind_some hm
      refine wpL_cut (fun a w => ∃ xs138 : List Int, ∃ A139, ∃ n140, ∃ c141, xs138 = r143 ∧ n140 = xs138.length ∧ Fr a 83 [(9, .slice A95 n96 c97), (10, .slice A100 n101 c102), (12, .slice A139 n140 c141)] ∧ St [] W w [.row A95 n96 c97 2 1 (ints xs94), .row A100 n101 c102 2 1 (ints xs99), .row A139 n140 c141 2 1 (ints xs138)]) ?_ ?_
      · refine wpL_cond hf rfl (fun hb145 => ?_) (fun hb145 => ?_)
        · have hj144 := bif_t hj144 hb145
          refine wpL_region ?_
          refine sY hf hs rfl rfl rfl (Y_move rfl rfl) ?_; clear hf; intro a hf
          refine sY hf hs rfl rfl rfl (Y_move rfl rfl) ?_; clear hf; intro a hf
          obtain ⟨r146, hc147, hj144⟩ := bind_some hj144
          refine sCall hf rfl rfl rfl rfl (cap := []) rfl rfl en124 (spec_l08Sub_ok F r8.1 A10 n11 c12 hn13 xs99 A100 n101 c102 hn103 _ _ hc147 (hs.rdM (i := 0) rfl) (hs.rd (i := 2) rfl)) ?_; clear hf
          rintro _ w ⟨A148, n149, c150, rfl, hn151, hs1⟩ a hf
          have hs : St [] W w [.mat A10 n11 c12 28 2 vs14 r8.1, .row A95 n96 c97 2 1 (ints xs94), .row A100 n101 c102 2 1 (ints xs99), .row A127 n128 c129 2 1 (ints r125), .row A148 n149 c150 2 1 (ints r146)] := hs.join hs1
          clear hs1
          refine sY hf hs rfl rfl rfl (Y_assign rfl rfl) ?_; clear hf; intro a hf
          refine wpO_nil ?_
          refine wpL_nil (then_normal ?_)
          exact ⟨r146, A148, n149, c150, Option.some.inj hj144, hn151, (FrD.pick (FrD.pick (FrD.pick hf.none hf rfl) hf rfl) hf rfl), hs.sel [1, 2, 4] (by decide)⟩
        · have hj144 := bif_f hj144 hb145
          refine wpL_skip ?_
          refine wpL_nil (then_normal ?_)
          exact ⟨r125, A127, n128, c129, Option.some.inj hj144, hn130, (FrD.pick (FrD.pick (FrD.pick hf.none hf rfl) hf rfl) hf rfl), hs.sel [1, 2, 3] (by decide)⟩
      · rintro a w ⟨xs138, A139, n140, c141, hr_, hn142, hf, hs⟩
        subst hr_
        try dsimp only at hm
        refine wpL_seq ?_
        refine wpL_seq ?_
        refine wpL_region ?_
        refine sY hf hs rfl rfl rfl (Y_assign rfl rfl) ?_; clear hf; intro a hf
        refine wpO_nil ?_
        obtain ⟨r223, hl224, hm⟩ := bind_some hm
        refine wpL_block (fun a w => Sum.inr () = r223 ∧ Fr a 83 [(12, .slice A139 n140 c141)] ∧ St [] W w [.row A139 n140 c141 2 1 (ints xs138)]) ?_ ?_
        · refine wpL_loop (fun n a w => ∃ x199 : Int, spec_l23Solve_L2 F xs94 xs99 xs138 n x199 = some r223 ∧ Fr a 83 [(9, .slice A95 n96 c97), (10, .slice A100 n101 c102), (12, .slice A139 n140 c141), (13, .int .i64 x199)] ∧ St [] W w [.row A95 n96 c97 2 1 (ints xs94), .row A100 n101 c102 2 1 (ints xs99), .row A139 n140 c141 2 1 (ints xs138)]) F ?_ ?_ ?_
          · exact ⟨0, hl224, (FrD.pick (FrD.pick (FrD.pick (FrD.pick hf.none hf rfl) hf rfl) hf rfl) hf rfl), hs⟩
          · rintro a w ⟨x199, h0_, -, -⟩; simp [spec_l23Solve_L2] at h0_
          · rintro n226 a w ⟨x199, hm225, hf, hs⟩
            rw [spec_l23Solve_L2] at hm225
            refine wpL_seq ?_
            refine wpL_seq ?_
            refine wpL_region ?_
            refine sY hf hs rfl rfl rfl (Y_move rfl rfl) ?_; clear hf; intro a hf
            refine sY hf hs rfl rfl rfl (Y_move rfl rfl) ?_; clear hf; intro a hf
            refine sY hf hs rfl rfl rfl (Y_lenH rfl rfl el28 hn142) ?_; clear hf; intro a hf
            refine sY hf hs rfl rfl rfl (Y_lss rfl rfl rfl) ?_; clear hf; intro a hf
            refine wpO_nil ?_
            refine wpL_cond hf rfl (fun hb227 => ?_) (fun hb227 => ?_)
            · have hm225 := bif_t hm225 hb227
              refine wpL_skip ?_
              refine wpL_seq ?_
              refine wpL_block0 ?_
              refine wpL_seq ?_
              obtain ⟨r238, hj239, hm225⟩ := bind_some hm225
              refine wpL_cut (fun a w => ∃ b237 : Bool, b237 = r238 ∧ Fr a 83 [(9, .slice A95 n96 c97), (10, .slice A100 n101 c102), (12, .slice A139 n140 c141), (13, .int .i64 x199), (81, .bool b237)] ∧ St [] W w [.row A95 n96 c97 2 1 (ints xs94), .row A100 n101 c102 2 1 (ints xs99), .row A139 n140 c141 2 1 (ints xs138)]) ?_ ?_
              · refine wpL_draw (by kernel_rfl) (by kernel_rfl) hs ?_
                refine qY hf rfl rfl rfl (Y_move rfl rfl) ?_; clear hf; intro a hf
                refine qY hf rfl rfl rfl (Y_move rfl rfl) ?_; clear hf; intro a hf
                obtain ⟨q240, hi241, hj239⟩ := bind_some hj239
                obtain ⟨hi241a, hi241b, hi241q⟩ := idx_some hi241
                refine qY hf rfl rfl rfl (Y_index rfl rfl rfl el28 ti2 (Rd.isAt (hs.rd (i := 2) rfl) (at1 (ints_at hi241q))) hi241a (ltn hn142 hi241b)) ?_; clear hf; intro a hf
                refine qY hf rfl rfl rfl (Y_load_rd rfl rfl (fun w hs => hs.rd (i := 2) rfl) (at1 (ints_at hi241q)) ag2) ?_; clear hf; intro a hf
                refine qY hf rfl rfl rfl (Y_move rfl rfl) ?_; clear hf; intro a hf
                refine qY hf rfl rfl rfl (Y_move rfl rfl) ?_; clear hf; intro a hf
                obtain ⟨q242, hi243, hj239⟩ := bind_some hj239
                obtain ⟨hi243a, hi243b, hi243q⟩ := idx_some hi243
                refine qY hf rfl rfl rfl (Y_index rfl rfl rfl el28 ti2 (Rd.isAt (hs.rd (i := 0) rfl) (at1 (ints_at hi243q))) hi243a (ltn hn98 hi243b)) ?_; clear hf; intro a hf
                refine qY hf rfl rfl rfl (Y_load_rd rfl rfl (fun w hs => hs.rd (i := 0) rfl) (at1 (ints_at hi243q)) ag2) ?_; clear hf; intro a hf
                refine qY hf rfl rfl rfl (Y_lss rfl rfl rfl) ?_; clear hf; intro a hf
                refine qY hf rfl rfl rfl (Y_move rfl rfl) ?_; clear hf; intro a hf
                refine bsplit (decide (q240 < q242)) (fun hb244 => ?_) (fun hb244 => ?_)
                · have hj239 := bif_t hj239 hb244
                  refine qNo hf rfl rfl rfl (congrArg (fun b => some (Value.bool b)) hb244) rfl rfl rfl ?_; clear hf; intro a hf
                  refine qNo hf rfl rfl rfl (congrArg (fun b => some (Value.bool b)) hb244) rfl rfl rfl ?_; clear hf; intro a hf
                  refine qNo hf rfl rfl rfl (congrArg (fun b => some (Value.bool b)) hb244) rfl rfl rfl ?_; clear hf; intro a hf
                  refine qNo hf rfl rfl rfl (congrArg (fun b => some (Value.bool b)) hb244) rfl rfl rfl ?_; clear hf; intro a hf
                  refine qNo hf rfl rfl rfl (congrArg (fun b => some (Value.bool b)) hb244) rfl rfl rfl ?_; clear hf; intro a hf
                  refine qNo hf rfl rfl rfl (congrArg (fun b => some (Value.bool b)) hb244) rfl rfl rfl ?_; clear hf; intro a hf
                  refine qNo hf rfl rfl rfl (congrArg (fun b => some (Value.bool b)) hb244) rfl rfl rfl ?_; clear hf; intro a hf
                  refine qNo hf rfl rfl rfl (congrArg (fun b => some (Value.bool b)) hb244) rfl rfl rfl ?_; clear hf; intro a hf
                  refine qNo hf rfl rfl rfl (congrArg (fun b => some (Value.bool b)) hb244) rfl rfl rfl ?_; clear hf; intro a hf
                  refine qY hf rfl rfl rfl (Y_pickT rfl (congrArg (fun b => some (Value.bool b)) hb244) rfl) ?_; clear hf; intro a hf
                  refine qNil ?_; clear hs; intro w hs
                  refine wpL_nil (then_normal ?_)
                  exact ⟨true, Option.some.inj hj239, (FrD.pick (FrD.pick (FrD.pick (FrD.pick (FrD.pick hf.none hf rfl) hf rfl) hf rfl) hf rfl) hf rfl), hs⟩
                · have hj239 := bif_f hj239 hb244
                  refine qYg hf rfl rfl rfl (congrArg (fun b => some (Value.bool b)) hb244) rfl rfl rfl (Y_move rfl rfl) ?_; clear hf; intro a hf
                  refine qYg hf rfl rfl rfl (congrArg (fun b => some (Value.bool b)) hb244) rfl rfl rfl (Y_move rfl rfl) ?_; clear hf; intro a hf
                  obtain ⟨q245, hi246, hj239⟩ := bind_some hj239
                  obtain ⟨hi246a, hi246b, hi246q⟩ := idx_some hi246
                  refine qYg hf rfl rfl rfl (congrArg (fun b => some (Value.bool b)) hb244) rfl rfl rfl (Y_index rfl rfl rfl el28 ti2 (Rd.isAt (hs.rd (i := 2) rfl) (at1 (ints_at hi246q))) hi246a (ltn hn142 hi246b)) ?_; clear hf; intro a hf
                  refine qYg hf rfl rfl rfl (congrArg (fun b => some (Value.bool b)) hb244) rfl rfl rfl (Y_load_rd rfl rfl (fun w hs => hs.rd (i := 2) rfl) (at1 (ints_at hi246q)) ag2) ?_; clear hf; intro a hf
                  refine qYg hf rfl rfl rfl (congrArg (fun b => some (Value.bool b)) hb244) rfl rfl rfl (Y_move rfl rfl) ?_; clear hf; intro a hf
                  refine qYg hf rfl rfl rfl (congrArg (fun b => some (Value.bool b)) hb244) rfl rfl rfl (Y_move rfl rfl) ?_; clear hf; intro a hf
                  obtain ⟨q247, hi248, hj239⟩ := bind_some hj239
                  obtain ⟨hi248a, hi248b, hi248q⟩ := idx_some hi248
                  refine qYg hf rfl rfl rfl (congrArg (fun b => some (Value.bool b)) hb244) rfl rfl rfl (Y_index rfl rfl rfl el28 ti2 (Rd.isAt (hs.rd (i := 1) rfl) (at1 (ints_at hi248q))) hi248a (ltn hn103 hi248b)) ?_; clear hf; intro a hf
                  refine qYg hf rfl rfl rfl (congrArg (fun b => some (Value.bool b)) hb244) rfl rfl rfl (Y_load_rd rfl rfl (fun w hs => hs.rd (i := 1) rfl) (at1 (ints_at hi248q)) ag2) ?_; clear hf; intro a hf
                  refine qYg hf rfl rfl rfl (congrArg (fun b => some (Value.bool b)) hb244) rfl rfl rfl (Y_gtr rfl rfl rfl) ?_; clear hf; intro a hf
                  refine qY hf rfl rfl rfl (Y_pickF rfl (congrArg (fun b => some (Value.bool b)) hb244) rfl) ?_; clear hf; intro a hf
                  refine qNil ?_; clear hs; intro w hs
                  refine wpL_nil (then_normal ?_)
                  exact ⟨(decide (q247 < q245)), Option.some.inj hj239, (FrD.pick (FrD.pick (FrD.pick (FrD.pick (FrD.pick hf.none hf rfl) hf rfl) hf rfl) hf rfl) hf rfl), hs⟩
              · rintro a w ⟨b237, hr_, hf, hs⟩
                subst hr_
                try dsimp only at hm225
                refine wpL_cond hf rfl (fun hb249 => ?_) (fun hb249 => ?_)
                · have hm225 := bif_t hm225 hb249
                  refine wpL_seq ?_
                  refine wpL_region ?_
                  refine sY hf hs rfl rfl rfl (Y_assign rfl rfl) ?_; clear hf; intro a hf
                  refine wpO_nil ?_
                  have hs : St [] W _ [.row A95 n96 c97 2 1 (ints xs94), .row A100 n101 c102 2 1 (ints xs99), .row A139 n140 c141 2 1 (ints xs138), .row none 0 0 2 1 (ints ([] : List Int))] := hs.addNil 2 1
                  obtain rfl := Option.some.inj hm225
                  try dsimp only at hm
                  obtain rfl := Option.some.inj hm
                  refine wpL_ret (Qb_ret (Ql_ret (Qb_ret (ret_tmp rfl hf rfl ?_))))
                  exact ⟨_, rfl, none, 0, 0, rfl, rfl, hs.sel [3] (by decide)⟩
                · have hm225 := bif_f hm225 hb249
                  refine wpL_skip ?_
                  refine wpL_nil (Qb_normal ?_)
                  refine wpL_region ?_
                  refine sY hf hs rfl rfl rfl (Y_move rfl rfl) ?_; clear hf; intro a hf
                  refine sY hf hs rfl rfl rfl (Y_add rfl rfl rfl) ?_; clear hf; intro a hf
                  refine sY hf hs rfl rfl rfl (Y_assign rfl rfl) ?_; clear hf; intro a hf
                  refine wpO_nil ?_
                  refine wpL_nil (Ql_normal ?_)
                  exact ⟨(IntKind.i64.wrap (x199 + 1)), hm225, (FrD.pick (FrD.pick (FrD.pick (FrD.pick hf.none hf rfl) hf rfl) hf rfl) hf rfl), hs⟩
            · have hm225 := bif_f hm225 hb227
              refine wpL_exit (Ql_exit (Qb_exit ?_))
              exact ⟨Option.some.inj hm225, (FrD.pick hf.none hf rfl), hs.sel [2] (by decide)⟩
        · rintro a w ⟨hr_, hf, hs⟩
          subst hr_
          try dsimp only at hm
          refine wpL_seq ?_
          refine wpL_region ?_
          refine sY hf hs rfl rfl rfl (Y_move rfl rfl) ?_; clear hf; intro a hf
          refine sY hf hs rfl rfl rfl (Y_assign rfl rfl) ?_; clear hf; intro a hf
          refine wpO_nil ?_
          obtain rfl := Option.some.inj hm
          refine wpL_ret (ret_tmp rfl hf rfl ?_)
          exact ⟨_, rfl, A139, n140, c141, rfl, hn142, hs⟩

set_option maxRecDepth 100000 in
theorem spec_l23Code_ok (F : Nat) (p0_windows : List GWindow) (A_p0_windows_1 : Option Addr) (n_p0_windows_1 c_p0_windows_1 : Nat) (hn_p0_windows_1 : n_p0_windows_1 = p0_windows.length) (p1_bonds : List GBond) (A_p1_bonds_1 : Option Addr) (n_p1_bonds_1 c_p1_bonds_1 : Nat) (hn_p1_bonds_1 : n_p1_bonds_1 = p1_bonds.length) (p2_least : Bool) (r : List Int × Int) (W : World) (hm : spec_l23Code F p0_windows p1_bonds p2_least = some r) (h_p0_windows_1 : Rd W A_p0_windows_1 ((recs GWindow.cells) p0_windows)) (h_p1_bonds_1 : Rd W A_p1_bonds_1 ((recs GBond.cells) p1_bonds)) :
    Calls Try.prog 67 [.slice A_p0_windows_1 n_p0_windows_1 c_p0_windows_1, .slice A_p1_bonds_1 n_p1_bonds_1 c_p1_bonds_1, .bool p2_least].toArray W fun e w' => ∃ v, e = .returned v ∧ ∃ A13, ∃ n14, ∃ c15, v = .tuple #[.slice A13 n14 c15, .int .i64 r.2] ∧ n14 = r.1.length ∧ St [] W w' [.row A13 n14 c15 2 1 (ints r.1)] := by
  subst hn_p0_windows_1
  subst hn_p1_bonds_1
  unfold spec_l23Code at hm
  refine Calls.enter (N := 21) Try.func67 rfl rfl rfl (fun a hf => ?_)
  have hs := St.start W
  obtain ⟨w, hw_⟩ : ∃ w, w = W := ⟨W, rfl⟩
  clear hw_ w
  refine wpL_seq ?_
  refine wpL_region ?_
  refine sY hf hs rfl rfl rfl (Y_assign rfl rfl) ?_; clear hf; intro a hf
  refine sY hf hs rfl rfl rfl (Y_assign rfl rfl) ?_; clear hf; intro a hf
  refine wpO_nil ?_
  refine wpL_seq ?_
  refine wpL_seq ?_
  refine wpL_region ?_
  refine sY hf hs rfl rfl rfl (Y_move rfl rfl) ?_; clear hf; intro a hf
  refine sY hf hs rfl rfl rfl (Y_move rfl rfl) ?_; clear hf; intro a hf
  obtain ⟨r1, hc2, hm⟩ := bind_some hm
  refine sCall hf rfl rfl rfl rfl (cap := []) rfl rfl en75 (spec_IsTask_ok F p0_windows A_p0_windows_1 p0_windows.length c_p0_windows_1 rfl p1_bonds A_p1_bonds_1 p1_bonds.length c_p1_bonds_1 rfl _ _ hc2 (h_p0_windows_1.at hs) (h_p1_bonds_1.at hs)) ?_; clear hf
  rintro _ w ⟨rfl, hs1⟩ a hf
  have hs : St [] W w [] := hs.ext hs1.below
  clear hs1
  refine sY hf hs rfl rfl rfl (Y_not rfl rfl) ?_; clear hf; intro a hf
  refine wpO_nil ?_
  refine wpL_cond hf rfl (fun hb3 => ?_) (fun hb3 => ?_)
  · have hm := bif_t hm hb3
    refine wpL_seq ?_
    refine wpL_region ?_
    refine sY hf hs rfl rfl rfl (Y_assign rfl rfl) ?_; clear hf; intro a hf
    refine sY hf hs rfl rfl rfl (Y_assign rfl rfl) ?_; clear hf; intro a hf
    refine wpO_nil ?_
    have hs : St [] W _ [.row none 0 0 2 1 (ints ([] : List Int))] := hs.addNil 2 1
    obtain rfl := Option.some.inj hm
    refine wpL_ret (ret_tmp2 rfl hf rfl rfl ?_)
    exact ⟨_, rfl, none, 0, 0, rfl, rfl, hs⟩
  · have hm := bif_f hm hb3
    refine wpL_skip ?_
    refine wpL_seq ?_
    refine wpL_region ?_
    refine sY hf hs rfl rfl rfl (Y_move rfl rfl) ?_; clear hf; intro a hf
    refine sY hf hs rfl rfl rfl (Y_move rfl rfl) ?_; clear hf; intro a hf
    refine sY hf hs rfl rfl rfl (Y_move rfl rfl) ?_; clear hf; intro a hf
    obtain ⟨r5, hc6, hm⟩ := bind_some hm
    refine sCall hf rfl rfl rfl rfl (cap := []) rfl rfl en68 (spec_l23Solve_ok F p0_windows A_p0_windows_1 p0_windows.length c_p0_windows_1 rfl p1_bonds A_p1_bonds_1 p1_bonds.length c_p1_bonds_1 rfl p2_least _ _ hc6 (h_p0_windows_1.at hs) (h_p1_bonds_1.at hs)) ?_; clear hf
    rintro _ w ⟨A7, n8, c9, rfl, hn10, hs1⟩ a hf
    have hs : St [] W w [.row A7 n8 c9 2 1 (ints r5)] := hs.join hs1
    clear hs1
    refine sY hf hs rfl rfl rfl (Y_assign rfl rfl) ?_; clear hf; intro a hf
    refine wpO_nil ?_
    refine wpL_seq ?_
    refine wpL_seq ?_
    refine wpL_region ?_
    refine sY hf hs rfl rfl rfl (Y_move rfl rfl) ?_; clear hf; intro a hf
    refine sY hf hs rfl rfl rfl (Y_lenH rfl rfl el28 hn10) ?_; clear hf; intro a hf
    refine sY hf hs rfl rfl rfl (Y_eql rfl rfl rfl) ?_; clear hf; intro a hf
    refine wpO_nil ?_
    refine wpL_cond hf rfl (fun hb11 => ?_) (fun hb11 => ?_)
    · have hm := bif_t hm hb11
      refine wpL_seq ?_
      refine wpL_region ?_
      refine sY hf hs rfl rfl rfl (Y_assign rfl rfl) ?_; clear hf; intro a hf
      refine sY hf hs rfl rfl rfl (Y_assign rfl rfl) ?_; clear hf; intro a hf
      refine wpO_nil ?_
      have hs : St [] W _ [.row A7 n8 c9 2 1 (ints r5), .row none 0 0 2 1 (ints ([] : List Int))] := hs.addNil 2 1
      obtain rfl := Option.some.inj hm
      refine wpL_ret (ret_tmp2 rfl hf rfl rfl ?_)
      exact ⟨_, rfl, none, 0, 0, rfl, rfl, hs.sel [1] (by decide)⟩
    · have hm := bif_f hm hb11
      refine wpL_skip ?_
      refine wpL_seq ?_
      refine wpL_region ?_
      refine sY hf hs rfl rfl rfl (Y_move rfl rfl) ?_; clear hf; intro a hf
      refine sY hf hs rfl rfl rfl (Y_assign rfl rfl) ?_; clear hf; intro a hf
      refine sY hf hs rfl rfl rfl (Y_assign rfl rfl) ?_; clear hf; intro a hf
      refine wpO_nil ?_
      obtain rfl := Option.some.inj hm
      refine wpL_ret (ret_tmp2 rfl hf rfl rfl ?_)
      exact ⟨_, rfl, A7, n8, c9, rfl, hn10, hs⟩

set_option maxRecDepth 100000 in
theorem spec_EarliestTimes_ok (F : Nat) (p0_windows : List GWindow) (A_p0_windows_1 : Option Addr) (n_p0_windows_1 c_p0_windows_1 : Nat) (hn_p0_windows_1 : n_p0_windows_1 = p0_windows.length) (p1_bonds : List GBond) (A_p1_bonds_1 : Option Addr) (n_p1_bonds_1 c_p1_bonds_1 : Nat) (hn_p1_bonds_1 : n_p1_bonds_1 = p1_bonds.length) (r : List Int × Int) (W : World) (hm : spec_EarliestTimes F p0_windows p1_bonds = some r) (h_p0_windows_1 : Rd W A_p0_windows_1 ((recs GWindow.cells) p0_windows)) (h_p1_bonds_1 : Rd W A_p1_bonds_1 ((recs GBond.cells) p1_bonds)) :
    Calls Try.prog 12 [.slice A_p0_windows_1 n_p0_windows_1 c_p0_windows_1, .slice A_p1_bonds_1 n_p1_bonds_1 c_p1_bonds_1].toArray W fun e w' => ∃ v, e = .returned v ∧ ∃ A7, ∃ n8, ∃ c9, v = .tuple #[.slice A7 n8 c9, .int .i64 r.2] ∧ n8 = r.1.length ∧ St [] W w' [.row A7 n8 c9 2 1 (ints r.1)] := by
  subst hn_p0_windows_1
  subst hn_p1_bonds_1
  unfold spec_EarliestTimes at hm
  refine Calls.enter (N := 11) Try.func12 rfl rfl rfl (fun a hf => ?_)
  have hs := St.start W
  obtain ⟨w, hw_⟩ : ∃ w, w = W := ⟨W, rfl⟩
  clear hw_ w
  refine wpL_seq ?_
  refine wpL_region ?_
  refine sY hf hs rfl rfl rfl (Y_assign rfl rfl) ?_; clear hf; intro a hf
  refine sY hf hs rfl rfl rfl (Y_assign rfl rfl) ?_; clear hf; intro a hf
  refine wpO_nil ?_
  refine wpL_seq ?_
  refine wpL_region ?_
  refine sY hf hs rfl rfl rfl (Y_move rfl rfl) ?_; clear hf; intro a hf
  refine sY hf hs rfl rfl rfl (Y_move rfl rfl) ?_; clear hf; intro a hf
  obtain ⟨r1, hc2, hm⟩ := bind_some hm
  refine sCall hf rfl rfl rfl rfl (cap := []) rfl rfl en67 (spec_l23Code_ok F p0_windows A_p0_windows_1 p0_windows.length c_p0_windows_1 rfl p1_bonds A_p1_bonds_1 p1_bonds.length c_p1_bonds_1 rfl true _ _ hc2 (h_p0_windows_1.at hs) (h_p1_bonds_1.at hs)) ?_; clear hf
  rintro _ w ⟨A3, n4, c5, rfl, hn6, hs1⟩ a hf
  have hs : St [] W w [.row A3 n4 c5 2 1 (ints r1.1)] := hs.join hs1
  clear hs1
  refine sY hf hs rfl rfl rfl (Y_extract rfl rfl rfl) ?_; clear hf; intro a hf
  refine sY hf hs rfl rfl rfl (Y_extract rfl rfl rfl) ?_; clear hf; intro a hf
  refine sY hf hs rfl rfl rfl (Y_assign rfl rfl) ?_; clear hf; intro a hf
  refine sY hf hs rfl rfl rfl (Y_assign rfl rfl) ?_; clear hf; intro a hf
  refine wpO_nil ?_
  obtain rfl := Option.some.inj hm
  refine wpL_ret (ret_tmp2 rfl hf rfl rfl ?_)
  exact ⟨_, rfl, A3, n4, c5, rfl, hn6, hs⟩

set_option maxRecDepth 100000 in
theorem impl_LatestIn_ok (F : Nat) (p0_windows : List GWindow) (A_p0_windows_1 : Option Addr) (n_p0_windows_1 c_p0_windows_1 : Nat) (hn_p0_windows_1 : n_p0_windows_1 = p0_windows.length) (p1_bonds : List GBond) (A_p1_bonds_1 : Option Addr) (n_p1_bonds_1 c_p1_bonds_1 : Nat) (hn_p1_bonds_1 : n_p1_bonds_1 = p1_bonds.length) (r : List Int × Int) (W : World) (hm : impl_LatestIn F p0_windows p1_bonds = some r) (h_p0_windows_1 : Rd W A_p0_windows_1 ((recs GWindow.cells) p0_windows)) (h_p1_bonds_1 : Rd W A_p1_bonds_1 ((recs GBond.cells) p1_bonds)) :
    Calls Try.prog 13 [.slice A_p0_windows_1 n_p0_windows_1 c_p0_windows_1, .slice A_p1_bonds_1 n_p1_bonds_1 c_p1_bonds_1].toArray W fun e w' => ∃ v, e = .returned v ∧ ∃ A11, ∃ n12, ∃ c13, v = .tuple #[.slice A11 n12 c13, .int .i64 r.2] ∧ n12 = r.1.length ∧ St [] W w' [.row A11 n12 c13 2 1 (ints r.1)] := by
  subst hn_p0_windows_1
  subst hn_p1_bonds_1
  unfold impl_LatestIn at hm
  refine Calls.enter (N := 18) Try.func13 rfl rfl rfl (fun a hf => ?_)
  have hs := St.start W
  obtain ⟨w, hw_⟩ : ∃ w, w = W := ⟨W, rfl⟩
  clear hw_ w
  refine wpL_seq ?_
  refine wpL_region ?_
  refine sY hf hs rfl rfl rfl (Y_assign rfl rfl) ?_; clear hf; intro a hf
  refine sY hf hs rfl rfl rfl (Y_assign rfl rfl) ?_; clear hf; intro a hf
  refine wpO_nil ?_
  refine wpL_seq ?_
  refine wpL_region ?_
  refine sY hf hs rfl rfl rfl (Y_move rfl rfl) ?_; clear hf; intro a hf
  refine sY hf hs rfl rfl rfl (Y_move rfl rfl) ?_; clear hf; intro a hf
  obtain ⟨r1, hc2, hm⟩ := bind_some hm
  refine sCall hf rfl rfl rfl rfl (cap := []) rfl rfl en66 (impl_solveTask_ok F p0_windows A_p0_windows_1 p0_windows.length c_p0_windows_1 rfl p1_bonds A_p1_bonds_1 p1_bonds.length c_p1_bonds_1 rfl _ _ hc2 (h_p0_windows_1.at hs) (h_p1_bonds_1.at hs)) ?_; clear hf
  rintro _ w ⟨A3, n4, c5, A7, n8, c9, rfl, hn6, hn10, hs1⟩ a hf
  have hs : St [] W w [.row A3 n4 c5 2 1 (ints r1.1), .row A7 n8 c9 2 1 (ints r1.2.1)] := hs.join hs1
  clear hs1
  refine sY hf hs rfl rfl rfl (Y_move rfl rfl) ?_; clear hf; intro a hf
  refine sY hf hs rfl rfl rfl (Y_extract rfl rfl rfl) ?_; clear hf; intro a hf
  refine sY hf hs rfl rfl rfl (Y_extract rfl rfl rfl) ?_; clear hf; intro a hf
  refine sY hf hs rfl rfl rfl (Y_extract rfl rfl rfl) ?_; clear hf; intro a hf
  refine sY hf hs rfl rfl rfl (Y_assign rfl rfl) ?_; clear hf; intro a hf
  refine sY hf hs rfl rfl rfl (Y_assign rfl rfl) ?_; clear hf; intro a hf
  refine sY hf hs rfl rfl rfl (Y_assign rfl rfl) ?_; clear hf; intro a hf
  refine wpO_nil ?_
  refine wpL_seq ?_
  refine wpL_region ?_
  refine sY hf hs rfl rfl rfl (Y_move rfl rfl) ?_; clear hf; intro a hf
  refine sY hf hs rfl rfl rfl (Y_move rfl rfl) ?_; clear hf; intro a hf
  refine sY hf hs rfl rfl rfl (Y_assign rfl rfl) ?_; clear hf; intro a hf
  refine sY hf hs rfl rfl rfl (Y_assign rfl rfl) ?_; clear hf; intro a hf
  refine wpO_nil ?_
  obtain rfl := Option.some.inj hm
  refine wpL_ret (ret_tmp2 rfl hf rfl rfl ?_)
  exact ⟨_, rfl, A7, n8, c9, rfl, hn10, hs.sel [1] (by decide)⟩

set_option maxRecDepth 100000 in
theorem spec_LatestIn_ok (F : Nat) (p0_windows : List GWindow) (A_p0_windows_1 : Option Addr) (n_p0_windows_1 c_p0_windows_1 : Nat) (hn_p0_windows_1 : n_p0_windows_1 = p0_windows.length) (p1_bonds : List GBond) (A_p1_bonds_1 : Option Addr) (n_p1_bonds_1 c_p1_bonds_1 : Nat) (hn_p1_bonds_1 : n_p1_bonds_1 = p1_bonds.length) (r : List Int × Int) (W : World) (hm : spec_LatestIn F p0_windows p1_bonds = some r) (h_p0_windows_1 : Rd W A_p0_windows_1 ((recs GWindow.cells) p0_windows)) (h_p1_bonds_1 : Rd W A_p1_bonds_1 ((recs GBond.cells) p1_bonds)) :
    Calls Try.prog 14 [.slice A_p0_windows_1 n_p0_windows_1 c_p0_windows_1, .slice A_p1_bonds_1 n_p1_bonds_1 c_p1_bonds_1].toArray W fun e w' => ∃ v, e = .returned v ∧ ∃ A7, ∃ n8, ∃ c9, v = .tuple #[.slice A7 n8 c9, .int .i64 r.2] ∧ n8 = r.1.length ∧ St [] W w' [.row A7 n8 c9 2 1 (ints r.1)] := by
  subst hn_p0_windows_1
  subst hn_p1_bonds_1
  unfold spec_LatestIn at hm
  refine Calls.enter (N := 11) Try.func14 rfl rfl rfl (fun a hf => ?_)
  have hs := St.start W
  obtain ⟨w, hw_⟩ : ∃ w, w = W := ⟨W, rfl⟩
  clear hw_ w
  refine wpL_seq ?_
  refine wpL_region ?_
  refine sY hf hs rfl rfl rfl (Y_assign rfl rfl) ?_; clear hf; intro a hf
  refine sY hf hs rfl rfl rfl (Y_assign rfl rfl) ?_; clear hf; intro a hf
  refine wpO_nil ?_
  refine wpL_seq ?_
  refine wpL_region ?_
  refine sY hf hs rfl rfl rfl (Y_move rfl rfl) ?_; clear hf; intro a hf
  refine sY hf hs rfl rfl rfl (Y_move rfl rfl) ?_; clear hf; intro a hf
  obtain ⟨r1, hc2, hm⟩ := bind_some hm
  refine sCall hf rfl rfl rfl rfl (cap := []) rfl rfl en67 (spec_l23Code_ok F p0_windows A_p0_windows_1 p0_windows.length c_p0_windows_1 rfl p1_bonds A_p1_bonds_1 p1_bonds.length c_p1_bonds_1 rfl false _ _ hc2 (h_p0_windows_1.at hs) (h_p1_bonds_1.at hs)) ?_; clear hf
  rintro _ w ⟨A3, n4, c5, rfl, hn6, hs1⟩ a hf
  have hs : St [] W w [.row A3 n4 c5 2 1 (ints r1.1)] := hs.join hs1
  clear hs1
  refine sY hf hs rfl rfl rfl (Y_extract rfl rfl rfl) ?_; clear hf; intro a hf
  refine sY hf hs rfl rfl rfl (Y_extract rfl rfl rfl) ?_; clear hf; intro a hf
  refine sY hf hs rfl rfl rfl (Y_assign rfl rfl) ?_; clear hf; intro a hf
  refine sY hf hs rfl rfl rfl (Y_assign rfl rfl) ?_; clear hf; intro a hf
  refine wpO_nil ?_
  obtain rfl := Option.some.inj hm
  refine wpL_ret (ret_tmp2 rfl hf rfl rfl ?_)
  exact ⟨_, rfl, A3, n4, c5, rfl, hn6, hs⟩

set_option maxRecDepth 100000 in
theorem impl_TightWindows_ok (F : Nat) (p0_windows : List GWindow) (A_p0_windows_1 : Option Addr) (n_p0_windows_1 c_p0_windows_1 : Nat) (hn_p0_windows_1 : n_p0_windows_1 = p0_windows.length) (p1_bonds : List GBond) (A_p1_bonds_1 : Option Addr) (n_p1_bonds_1 c_p1_bonds_1 : Nat) (hn_p1_bonds_1 : n_p1_bonds_1 = p1_bonds.length) (r : List GWindow × Int) (W : World) (hm : impl_TightWindows F p0_windows p1_bonds = some r) (h_p0_windows_1 : Rd W A_p0_windows_1 ((recs GWindow.cells) p0_windows)) (h_p1_bonds_1 : Rd W A_p1_bonds_1 ((recs GBond.cells) p1_bonds)) :
    Calls Try.prog 15 [.slice A_p0_windows_1 n_p0_windows_1 c_p0_windows_1, .slice A_p1_bonds_1 n_p1_bonds_1 c_p1_bonds_1].toArray W fun e w' => ∃ v, e = .returned v ∧ ∃ A64, ∃ n65, ∃ c66, v = .tuple #[.slice A64 n65 c66, .int .i64 r.2] ∧ n65 = r.1.length ∧ St [] W w' [.row A64 n65 c66 39 2 ((recs GWindow.cells) r.1)] := by
  subst hn_p0_windows_1
  subst hn_p1_bonds_1
  unfold impl_TightWindows at hm
  refine Calls.enter (N := 43) Try.func15 rfl rfl rfl (fun a hf => ?_)
  have hs := St.start W
  obtain ⟨w, hw_⟩ : ∃ w, w = W := ⟨W, rfl⟩
  clear hw_ w
  refine wpL_seq ?_
  refine wpL_region ?_
  refine sY hf hs rfl rfl rfl (Y_assign rfl rfl) ?_; clear hf; intro a hf
  refine sY hf hs rfl rfl rfl (Y_assign rfl rfl) ?_; clear hf; intro a hf
  refine wpO_nil ?_
  refine wpL_seq ?_
  refine wpL_region ?_
  refine sY hf hs rfl rfl rfl (Y_move rfl rfl) ?_; clear hf; intro a hf
  refine sY hf hs rfl rfl rfl (Y_move rfl rfl) ?_; clear hf; intro a hf
  obtain ⟨r1, hc2, hm⟩ := bind_some hm
  refine sCall hf rfl rfl rfl rfl (cap := []) rfl rfl en66 (impl_solveTask_ok F p0_windows A_p0_windows_1 p0_windows.length c_p0_windows_1 rfl p1_bonds A_p1_bonds_1 p1_bonds.length c_p1_bonds_1 rfl _ _ hc2 (h_p0_windows_1.at hs) (h_p1_bonds_1.at hs)) ?_; clear hf
  rintro _ w ⟨A3, n4, c5, A7, n8, c9, rfl, hn6, hn10, hs1⟩ a hf
  have hs : St [] W w [.row A3 n4 c5 2 1 (ints r1.1), .row A7 n8 c9 2 1 (ints r1.2.1)] := hs.join hs1
  clear hs1
  refine sY hf hs rfl rfl rfl (Y_move rfl rfl) ?_; clear hf; intro a hf
  refine sY hf hs rfl rfl rfl (Y_extract rfl rfl rfl) ?_; clear hf; intro a hf
  refine sY hf hs rfl rfl rfl (Y_extract rfl rfl rfl) ?_; clear hf; intro a hf
  refine sY hf hs rfl rfl rfl (Y_extract rfl rfl rfl) ?_; clear hf; intro a hf
  refine sY hf hs rfl rfl rfl (Y_assign rfl rfl) ?_; clear hf; intro a hf
  refine sY hf hs rfl rfl rfl (Y_assign rfl rfl) ?_; clear hf; intro a hf
  refine sY hf hs rfl rfl rfl (Y_assign rfl rfl) ?_; clear hf; intro a hf
  refine wpO_nil ?_
  refine wpL_seq ?_
  refine wpL_seq ?_
  refine wpL_region ?_
  refine sY hf hs rfl rfl rfl (Y_move rfl rfl) ?_; clear hf; intro a hf
  refine sY hf hs rfl rfl rfl (Y_neq rfl rfl rfl) ?_; clear hf; intro a hf
  refine wpO_nil ?_
  refine wpL_cond hf rfl (fun hb11 => ?_) (fun hb11 => ?_)
  · have hm := bif_t hm hb11
    refine wpL_seq ?_
    refine wpL_region ?_
    refine sY hf hs rfl rfl rfl (Y_move rfl rfl) ?_; clear hf; intro a hf
    refine sY hf hs rfl rfl rfl (Y_assign rfl rfl) ?_; clear hf; intro a hf
    refine sY hf hs rfl rfl rfl (Y_assign rfl rfl) ?_; clear hf; intro a hf
    refine wpO_nil ?_
    have hs : St [] W _ [.row A3 n4 c5 2 1 (ints r1.1), .row A7 n8 c9 2 1 (ints r1.2.1), .row none 0 0 39 2 ((recs GWindow.cells) ([] : List GWindow))] := hs.addNil 39 2
    obtain rfl := Option.some.inj hm
    refine wpL_ret (ret_tmp2 rfl hf rfl rfl ?_)
    exact ⟨_, rfl, none, 0, 0, rfl, rfl, hs.sel [2] (by decide)⟩
  · have hm := bif_f hm hb11
    refine wpL_skip ?_
    refine wpL_seq ?_
    refine wpL_region ?_
    refine sY hf hs rfl rfl rfl (Y_move rfl rfl) ?_; clear hf; intro a hf
    refine sY hf hs rfl rfl rfl (Y_lenH rfl rfl el24 rfl) ?_; clear hf; intro a hf
    obtain ⟨xs15, hk14, hm⟩ := bind_some hm
    refine sMakeL (enc := (recs GWindow.cells)) hf hs rfl rfl rfl rfl rfl hk14 el24 ti39 rfl (recs_made (f := GWindow.cells) (z0 := (GWindow.mk 0 0)) rfl) ?_; clear hf hs; intro a w A13 hs hf
    have hs : St [] W w [.row A3 n4 c5 2 1 (ints r1.1), .row A7 n8 c9 2 1 (ints r1.2.1), .row A13 xs15.length xs15.length 39 2 ((recs GWindow.cells) xs15)] := hs
    refine sY hf hs rfl rfl rfl (Y_assign rfl rfl) ?_; clear hf; intro a hf
    refine wpO_nil ?_
    refine wpL_seq ?_
    refine wpL_seq ?_
    refine wpL_region ?_
    refine sY hf hs rfl rfl rfl (Y_move rfl rfl) ?_; clear hf; intro a hf
    refine sY hf hs rfl rfl rfl (Y_lenH rfl rfl el24 rfl) ?_; clear hf; intro a hf
    refine sY hf hs rfl rfl rfl (Y_move rfl rfl) ?_; clear hf; intro a hf
    refine wpO_nil ?_
    obtain ⟨r51, hl52, hm⟩ := bind_some hm
    refine wpL_block (fun a w => ∃ xs49 : List GWindow, xs49 = r51 ∧ xs15.length = xs49.length ∧ Fr a 43 [(9, .slice A13 xs15.length xs15.length)] ∧ St [] W w [.row A13 xs15.length xs15.length 39 2 ((recs GWindow.cells) xs49)]) ?_ ?_
    · refine wpL_loop (fun n a w => ∃ xs37 : List GWindow, ∃ x39 : Int, impl_TightWindows_L1 F r1 xs15 n xs37 x39 = some r51 ∧ xs15.length = xs37.length ∧ Fr a 43 [(6, .slice A3 n4 c5), (7, .slice A7 n8 c9), (9, .slice A13 xs15.length xs15.length), (25, .int .i64 (xs15.length : Int)), (26, .int .i64 x39)] ∧ St [] W w [.row A3 n4 c5 2 1 (ints r1.1), .row A7 n8 c9 2 1 (ints r1.2.1), .row A13 xs15.length xs15.length 39 2 ((recs GWindow.cells) xs37)]) F ?_ ?_ ?_
      · exact ⟨xs15, 0, hl52, rfl, (FrD.pick (FrD.pick (FrD.pick (FrD.pick (FrD.pick hf.none hf rfl) hf rfl) hf rfl) hf rfl) hf rfl), hs⟩
      · rintro a w ⟨xs37, x39, h0_, -, -, -⟩; simp [impl_TightWindows_L1] at h0_
      · rintro n54 a w ⟨xs37, x39, hm53, hn38, hf, hs⟩
        rw [impl_TightWindows_L1] at hm53
        refine wpL_seq ?_
        refine wpL_region ?_
        refine sY hf hs rfl rfl rfl (Y_lss rfl rfl rfl) ?_; clear hf; intro a hf
        refine wpO_nil ?_
        refine wpL_seq ?_
        refine wpL_cond hf rfl (fun hb55 => ?_) (fun hb55 => ?_)
        · have hm53 := bif_t hm53 hb55
          refine wpL_skip ?_
          refine wpL_seq ?_
          refine wpL_block0 ?_
          refine wpL_seq ?_
          refine wpL_region ?_
          refine sY hf hs rfl rfl rfl (Y_move rfl rfl) ?_; clear hf; intro a hf
          refine sY hf hs rfl rfl rfl (Y_assign rfl rfl) ?_; clear hf; intro a hf
          refine wpO_nil ?_
          refine wpL_drawM [.row A3 n4 c5 2 1 (ints r1.1), .row A7 n8 c9 2 1 (ints r1.2.1), .row A13 xs15.length xs15.length 39 2 ((recs GWindow.cells) xs37)] [12] (by kernel_rfl) hs ?_; clear hs; intro w hs
          have hs0 : St [] W w [.row A3 n4 c5 2 1 (ints r1.1), .row A7 n8 c9 2 1 (ints r1.2.1), .row A13 xs15.length xs15.length 39 2 ((recs GWindow.cells) xs37)] := hs
          refine mYp (i := 0) rfl (by kernel_rfl) (by kernel_rfl) hf rfl rfl rfl (fun _ => Y_move rfl rfl) ?_; clear hf; intro a hf
          refine mYp (i := 1) rfl (by kernel_rfl) (by kernel_rfl) hf rfl rfl rfl (fun _ => Y_move rfl rfl) ?_; clear hf; intro a hf
          refine mYp (i := 2) rfl (by kernel_rfl) (by kernel_rfl) hf rfl rfl rfl (fun _ => Y_move rfl rfl) ?_; clear hf; intro a hf
          refine mYp (i := 3) rfl (by kernel_rfl) (by kernel_rfl) hf rfl rfl rfl (fun _ => Y_move rfl rfl) ?_; clear hf; intro a hf
          obtain ⟨q56, hi57, hm53⟩ := bind_some hm53
          obtain ⟨hi57a, hi57b, hi57q⟩ := idx_some hi57
          refine mYp (i := 4) rfl (by kernel_rfl) (by kernel_rfl) hf rfl rfl rfl (fun _ => Y_index rfl rfl rfl el28 ti2 (Rd.isAt (hs.rd (i := 0) rfl) (at1 (ints_at hi57q))) hi57a (ltn hn6 hi57b)) ?_; clear hf; intro a hf
          refine mY (i := 5) [[]] rfl (by kernel_rfl) (by kernel_rfl) hf hs0 rfl rfl rfl (Y_load_rd rfl rfl (fun w hs => hs.rd (i := 0) rfl) (at1 (ints_at hi57q)) ag2) ?_; clear hf; intro a hf
          refine mYp (i := 6) rfl (by kernel_rfl) (by kernel_rfl) hf rfl rfl rfl (fun _ => Y_move rfl rfl) ?_; clear hf; intro a hf
          refine mYp (i := 7) rfl (by kernel_rfl) (by kernel_rfl) hf rfl rfl rfl (fun _ => Y_move rfl rfl) ?_; clear hf; intro a hf
          obtain ⟨q58, hi59, hm53⟩ := bind_some hm53
          obtain ⟨hi59a, hi59b, hi59q⟩ := idx_some hi59
          refine mYp (i := 8) rfl (by kernel_rfl) (by kernel_rfl) hf rfl rfl rfl (fun _ => Y_index rfl rfl rfl el28 ti2 (Rd.isAt (hs.rd (i := 1) rfl) (at1 (ints_at hi59q))) hi59a (ltn hn10 hi59b)) ?_; clear hf; intro a hf
          refine mY (i := 9) [[]] rfl (by kernel_rfl) (by kernel_rfl) hf hs0 rfl rfl rfl (Y_load_rd rfl rfl (fun w hs => hs.rd (i := 1) rfl) (at1 (ints_at hi59q)) ag2) ?_; clear hf; intro a hf
          refine mYp (i := 10) rfl (by kernel_rfl) (by kernel_rfl) hf rfl rfl rfl (fun _ => Y_build (parts := [(0, .tmp 34), (1, .tmp 38)]) (vs := [.int .i64 q56, .int .i64 q58]) rfl rfl (run_build (parts := [(0, .int .i64 q56), (1, .int .i64 q58)]) (cells := [.int .i64 q56, .int .i64 q58]) (places := #[(0, 1), (1, 1)]) ti39 Try.underlying39 (fun w => by simp [go_sem]) rfl)) ?_; clear hf; intro a hf
          obtain ⟨q60, hi61, hm53⟩ := bind_some hm53
          obtain ⟨hi61a, hi61b, hi61q⟩ := idx_some hi61
          refine mYp (i := 11) rfl (by kernel_rfl) (by kernel_rfl) hf rfl rfl rfl (fun _ => Y_index rfl rfl rfl el24 ti39 (Rd.isAt (hs.rd (i := 2) rfl) (recs_at (s := 2) GWindow.len hi61q (j := 0) rfl)) hi61a (ltn hn38 hi61b)) ?_; clear hf; intro a hf
          refine mRun (i := 12) rfl (by kernel_rfl) ?_
          obtain ⟨xs62, hu63, hm53⟩ := bind_some hm53
          refine sStoreL (i := 2) (us := [.int .i64 q56, .int .i64 q58]) (enc := (recs GWindow.cells)) hf hs rfl rfl rfl rfl rfl rfl hn38 hu63 ti39 rfl rfl rfl rfl rfl (recs_length GWindow.len) (recs_set (s := 2) GWindow.len (GWindow.mk q56 q58)) ?_; clear hs; intro w hs
          have hs : St [] W w [.row A3 n4 c5 2 1 (ints r1.1), .row A7 n8 c9 2 1 (ints r1.2.1), .row A13 xs15.length xs15.length 39 2 ((recs GWindow.cells) xs62)] := hs
          refine wpO_nil ⟨Or.inl (by decide), ?_⟩
          refine mDone (by kernel_rfl) ?_
          clear hs0
          refine wpL_nil (Qb_normal ?_)
          refine wpL_region ?_
          refine sY hf hs rfl rfl rfl (Y_add rfl rfl rfl) ?_; clear hf; intro a hf
          refine sY hf hs rfl rfl rfl (Y_move rfl rfl) ?_; clear hf; intro a hf
          refine wpO_nil ?_
          refine wpL_nil (Ql_normal ?_)
          exact ⟨xs62, (IntKind.i64.wrap (x39 + 1)), hm53, ((hn38).trans (upd_len hu63).symm), (FrD.pick (FrD.pick (FrD.pick (FrD.pick (FrD.pick hf.none hf rfl) hf rfl) hf rfl) hf rfl) hf rfl), hs⟩
        · have hm53 := bif_f hm53 hb55
          refine wpL_exit (Ql_exit (Qb_exit ?_))
          exact ⟨xs37, Option.some.inj hm53, hn38, (FrD.pick hf.none hf rfl), hs.sel [2] (by decide)⟩
    · rintro a w ⟨xs49, hr_, hn50, hf, hs⟩
      subst hr_
      try dsimp only at hm
      refine wpL_seq ?_
      refine wpL_region ?_
      refine sY hf hs rfl rfl rfl (Y_move rfl rfl) ?_; clear hf; intro a hf
      refine sY hf hs rfl rfl rfl (Y_assign rfl rfl) ?_; clear hf; intro a hf
      refine sY hf hs rfl rfl rfl (Y_assign rfl rfl) ?_; clear hf; intro a hf
      refine wpO_nil ?_
      obtain rfl := Option.some.inj hm
      refine wpL_ret (ret_tmp2 rfl hf rfl rfl ?_)
      exact ⟨_, rfl, A13, xs15.length, xs15.length, rfl, hn50, hs⟩

set_option maxRecDepth 100000 in
theorem spec_TightWindows_ok (F : Nat) (p0_windows : List GWindow) (A_p0_windows_1 : Option Addr) (n_p0_windows_1 c_p0_windows_1 : Nat) (hn_p0_windows_1 : n_p0_windows_1 = p0_windows.length) (p1_bonds : List GBond) (A_p1_bonds_1 : Option Addr) (n_p1_bonds_1 c_p1_bonds_1 : Nat) (hn_p1_bonds_1 : n_p1_bonds_1 = p1_bonds.length) (r : List GWindow × Int) (W : World) (hm : spec_TightWindows F p0_windows p1_bonds = some r) (h_p0_windows_1 : Rd W A_p0_windows_1 ((recs GWindow.cells) p0_windows)) (h_p1_bonds_1 : Rd W A_p1_bonds_1 ((recs GBond.cells) p1_bonds)) :
    Calls Try.prog 16 [.slice A_p0_windows_1 n_p0_windows_1 c_p0_windows_1, .slice A_p1_bonds_1 n_p1_bonds_1 c_p1_bonds_1].toArray W fun e w' => ∃ v, e = .returned v ∧ ∃ A82, ∃ n83, ∃ c84, v = .tuple #[.slice A82 n83 c84, .int .i64 r.2] ∧ n83 = r.1.length ∧ St [] W w' [.row A82 n83 c84 39 2 ((recs GWindow.cells) r.1)] := by
  subst hn_p0_windows_1
  subst hn_p1_bonds_1
  unfold spec_TightWindows at hm
  refine Calls.enter (N := 43) Try.func16 rfl rfl rfl (fun a hf => ?_)
  have hs := St.start W
  obtain ⟨w, hw_⟩ : ∃ w, w = W := ⟨W, rfl⟩
  clear hw_ w
  refine wpL_seq ?_
  refine wpL_region ?_
  refine sY hf hs rfl rfl rfl (Y_assign rfl rfl) ?_; clear hf; intro a hf
  refine sY hf hs rfl rfl rfl (Y_assign rfl rfl) ?_; clear hf; intro a hf
  refine wpO_nil ?_
  refine wpL_seq ?_
  refine wpL_region ?_
  refine sY hf hs rfl rfl rfl (Y_move rfl rfl) ?_; clear hf; intro a hf
  refine sY hf hs rfl rfl rfl (Y_move rfl rfl) ?_; clear hf; intro a hf
  obtain ⟨r1, hc2, hm⟩ := bind_some hm
  refine sCall hf rfl rfl rfl rfl (cap := []) rfl rfl en67 (spec_l23Code_ok F p0_windows A_p0_windows_1 p0_windows.length c_p0_windows_1 rfl p1_bonds A_p1_bonds_1 p1_bonds.length c_p1_bonds_1 rfl true _ _ hc2 (h_p0_windows_1.at hs) (h_p1_bonds_1.at hs)) ?_; clear hf
  rintro _ w ⟨A3, n4, c5, rfl, hn6, hs1⟩ a hf
  have hs : St [] W w [.row A3 n4 c5 2 1 (ints r1.1)] := hs.join hs1
  clear hs1
  refine sY hf hs rfl rfl rfl (Y_move rfl rfl) ?_; clear hf; intro a hf
  refine sY hf hs rfl rfl rfl (Y_extract rfl rfl rfl) ?_; clear hf; intro a hf
  refine sY hf hs rfl rfl rfl (Y_extract rfl rfl rfl) ?_; clear hf; intro a hf
  refine sY hf hs rfl rfl rfl (Y_assign rfl rfl) ?_; clear hf; intro a hf
  refine sY hf hs rfl rfl rfl (Y_assign rfl rfl) ?_; clear hf; intro a hf
  refine wpO_nil ?_
  refine wpL_seq ?_
  refine wpL_seq ?_
  refine wpL_region ?_
  refine sY hf hs rfl rfl rfl (Y_move rfl rfl) ?_; clear hf; intro a hf
  refine sY hf hs rfl rfl rfl (Y_neq rfl rfl rfl) ?_; clear hf; intro a hf
  refine wpO_nil ?_
  refine wpL_cond hf rfl (fun hb7 => ?_) (fun hb7 => ?_)
  · have hm := bif_t hm hb7
    refine wpL_seq ?_
    refine wpL_region ?_
    refine sY hf hs rfl rfl rfl (Y_move rfl rfl) ?_; clear hf; intro a hf
    refine sY hf hs rfl rfl rfl (Y_assign rfl rfl) ?_; clear hf; intro a hf
    refine sY hf hs rfl rfl rfl (Y_assign rfl rfl) ?_; clear hf; intro a hf
    refine wpO_nil ?_
    have hs : St [] W _ [.row A3 n4 c5 2 1 (ints r1.1), .row none 0 0 39 2 ((recs GWindow.cells) ([] : List GWindow))] := hs.addNil 39 2
    obtain rfl := Option.some.inj hm
    refine wpL_ret (ret_tmp2 rfl hf rfl rfl ?_)
    exact ⟨_, rfl, none, 0, 0, rfl, rfl, hs.sel [1] (by decide)⟩
  · have hm := bif_f hm hb7
    refine wpL_skip ?_
    refine wpL_seq ?_
    refine wpL_region ?_
    refine sY hf hs rfl rfl rfl (Y_move rfl rfl) ?_; clear hf; intro a hf
    refine sY hf hs rfl rfl rfl (Y_move rfl rfl) ?_; clear hf; intro a hf
    obtain ⟨r9, hc10, hm⟩ := bind_some hm
    refine sCall hf rfl rfl rfl rfl (cap := []) rfl rfl en68 (spec_l23Solve_ok F p0_windows A_p0_windows_1 p0_windows.length c_p0_windows_1 rfl p1_bonds A_p1_bonds_1 p1_bonds.length c_p1_bonds_1 rfl false _ _ hc10 (h_p0_windows_1.at hs) (h_p1_bonds_1.at hs)) ?_; clear hf
    rintro _ w ⟨A11, n12, c13, rfl, hn14, hs1⟩ a hf
    have hs : St [] W w [.row A3 n4 c5 2 1 (ints r1.1), .row A11 n12 c13 2 1 (ints r9)] := hs.join hs1
    clear hs1
    refine sY hf hs rfl rfl rfl (Y_assign rfl rfl) ?_; clear hf; intro a hf
    refine wpO_nil ?_
    refine wpL_seq ?_
    refine wpL_region ?_
    refine sEmpty hf hs rfl rfl rfl rfl el24 ti39 ?_; clear hf hs; intro a w A15 hs hf
    have hs : St [] W w [.row A3 n4 c5 2 1 (ints r1.1), .row A11 n12 c13 2 1 (ints r9), .row A15 0 0 39 2 ((recs GWindow.cells) ([] : List GWindow))] := hs
    refine sY hf hs rfl rfl rfl (Y_assign rfl rfl) ?_; clear hf; intro a hf
    refine wpO_nil ?_
    refine wpL_seq ?_
    refine wpL_seq ?_
    refine wpL_region ?_
    refine sY hf hs rfl rfl rfl (Y_assign rfl rfl) ?_; clear hf; intro a hf
    refine wpO_nil ?_
    obtain ⟨r67, hl68, hm⟩ := bind_some hm
    refine wpL_block (fun a w => ∃ xs62 : List GWindow, ∃ A63, ∃ n64, ∃ c65, xs62 = r67 ∧ n64 = xs62.length ∧ Fr a 43 [(9, .slice A63 n64 c65)] ∧ St [] W w [.row A63 n64 c65 39 2 ((recs GWindow.cells) xs62)]) ?_ ?_
    · refine wpL_loop (fun n a w => ∃ xs45 : List GWindow, ∃ x50 : Int, ∃ A46, ∃ n47, ∃ c48, spec_TightWindows_L1 F r1 r9 n xs45 x50 = some r67 ∧ n47 = xs45.length ∧ Fr a 43 [(6, .slice A3 n4 c5), (8, .slice A11 n12 c13), (9, .slice A46 n47 c48), (10, .int .i64 x50)] ∧ St [] W w [.row A3 n4 c5 2 1 (ints r1.1), .row A11 n12 c13 2 1 (ints r9), .row A46 n47 c48 39 2 ((recs GWindow.cells) xs45)]) F ?_ ?_ ?_
      · exact ⟨([] : List GWindow), 0, A15, 0, 0, hl68, rfl, (FrD.pick (FrD.pick (FrD.pick (FrD.pick hf.none hf rfl) hf rfl) hf rfl) hf rfl), hs⟩
      · rintro a w ⟨xs45, x50, A46, n47, c48, h0_, -, -, -⟩; simp [spec_TightWindows_L1] at h0_
      · rintro n70 a w ⟨xs45, x50, A46, n47, c48, hm69, hn49, hf, hs⟩
        rw [spec_TightWindows_L1] at hm69
        refine wpL_seq ?_
        refine wpL_seq ?_
        refine wpL_region ?_
        refine sY hf hs rfl rfl rfl (Y_move rfl rfl) ?_; clear hf; intro a hf
        refine sY hf hs rfl rfl rfl (Y_move rfl rfl) ?_; clear hf; intro a hf
        refine sY hf hs rfl rfl rfl (Y_lenH rfl rfl el28 hn6) ?_; clear hf; intro a hf
        refine sY hf hs rfl rfl rfl (Y_lss rfl rfl rfl) ?_; clear hf; intro a hf
        refine wpO_nil ?_
        refine wpL_cond hf rfl (fun hb71 => ?_) (fun hb71 => ?_)
        · have hm69 := bif_t hm69 hb71
          refine wpL_skip ?_
          refine wpL_seq ?_
          refine wpL_block0 ?_
          refine wpL_drawM [.row A3 n4 c5 2 1 (ints r1.1), .row A11 n12 c13 2 1 (ints r9), .row A46 n47 c48 39 2 ((recs GWindow.cells) xs45)] [10, 11] (by kernel_rfl) hs ?_; clear hs; intro w hs
          have hs0 : St [] W w [.row A3 n4 c5 2 1 (ints r1.1), .row A11 n12 c13 2 1 (ints r9), .row A46 n47 c48 39 2 ((recs GWindow.cells) xs45)] := hs
          refine mYp (i := 0) rfl (by kernel_rfl) (by kernel_rfl) hf rfl rfl rfl (fun _ => Y_move rfl rfl) ?_; clear hf; intro a hf
          refine mYp (i := 1) rfl (by kernel_rfl) (by kernel_rfl) hf rfl rfl rfl (fun _ => Y_move rfl rfl) ?_; clear hf; intro a hf
          refine mYp (i := 2) rfl (by kernel_rfl) (by kernel_rfl) hf rfl rfl rfl (fun _ => Y_move rfl rfl) ?_; clear hf; intro a hf
          obtain ⟨q72, hi73, hm69⟩ := bind_some hm69
          obtain ⟨hi73a, hi73b, hi73q⟩ := idx_some hi73
          refine mYp (i := 3) rfl (by kernel_rfl) (by kernel_rfl) hf rfl rfl rfl (fun _ => Y_index rfl rfl rfl el28 ti2 (Rd.isAt (hs.rd (i := 0) rfl) (at1 (ints_at hi73q))) hi73a (ltn hn6 hi73b)) ?_; clear hf; intro a hf
          refine mY (i := 4) [[9], [9, 10]] rfl (by kernel_rfl) (by kernel_rfl) hf hs0 rfl rfl rfl (Y_load_rd rfl rfl (fun w hs => hs.rd (i := 0) rfl) (at1 (ints_at hi73q)) ag2) ?_; clear hf; intro a hf
          refine mYp (i := 5) rfl (by kernel_rfl) (by kernel_rfl) hf rfl rfl rfl (fun _ => Y_move rfl rfl) ?_; clear hf; intro a hf
          refine mYp (i := 6) rfl (by kernel_rfl) (by kernel_rfl) hf rfl rfl rfl (fun _ => Y_move rfl rfl) ?_; clear hf; intro a hf
          obtain ⟨q74, hi75, hm69⟩ := bind_some hm69
          obtain ⟨hi75a, hi75b, hi75q⟩ := idx_some hi75
          refine mYp (i := 7) rfl (by kernel_rfl) (by kernel_rfl) hf rfl rfl rfl (fun _ => Y_index rfl rfl rfl el28 ti2 (Rd.isAt (hs.rd (i := 1) rfl) (at1 (ints_at hi75q))) hi75a (ltn hn14 hi75b)) ?_; clear hf; intro a hf
          refine mY (i := 8) [[9], [9, 10]] rfl (by kernel_rfl) (by kernel_rfl) hf hs0 rfl rfl rfl (Y_load_rd rfl rfl (fun w hs => hs.rd (i := 1) rfl) (at1 (ints_at hi75q)) ag2) ?_; clear hf; intro a hf
          refine mYp (i := 9) rfl (by kernel_rfl) (by kernel_rfl) hf rfl rfl rfl (fun _ => Y_build (parts := [(0, .tmp 34), (1, .tmp 38)]) (vs := [.int .i64 q72, .int .i64 q74]) rfl rfl (run_build (parts := [(0, .int .i64 q72), (1, .int .i64 q74)]) (cells := [.int .i64 q72, .int .i64 q74]) (places := #[(0, 1), (1, 1)]) ti39 Try.underlying39 (fun w => by simp [go_sem]) rfl)) ?_; clear hf; intro a hf
          refine mRun (i := 10) rfl (by kernel_rfl) ?_
          refine sBuildSlice (parts := [(0, .tmp 39)]) (vs := [.agg #[.int .i64 q72, .int .i64 q74]]) (cells := [.int .i64 q72, .int .i64 q74]) hf hs rfl rfl rfl rfl rfl el24 ti39 rfl rfl rfl rfl ?_; clear hf hs; intro a w A76 hs hA77 hf
          have hs : St [] W w [.row A3 n4 c5 2 1 (ints r1.1), .row A11 n12 c13 2 1 (ints r9), .row A46 n47 c48 39 2 ((recs GWindow.cells) xs45), .row A76 1 1 39 2 ((recs GWindow.cells) ([(GWindow.mk q72 q74)]))] := hs
          refine wpO_nil ⟨Or.inl (by decide), ?_⟩
          refine mRun (i := 11) rfl (by kernel_rfl) ?_
          obtain ⟨xs80, ha81, hm69⟩ := bind_some hm69
          refine sAppendL (i := 2) (xs := xs45) (ys := [(GWindow.mk q72 q74)]) (enc := (recs GWindow.cells)) hf hs rfl rfl rfl rfl rfl rfl hn49 rfl rfl ha81 el24 ti39 rfl rfl rfl (hs.rd (i := 3) rfl) (Nat.succ_pos _) (recs_length GWindow.len) (recs_append GWindow.cells) (recs_one GWindow.one) ?_; clear hf hs; intro a w A78 c79 hs hf
          have hs : St [] W w [.row A3 n4 c5 2 1 (ints r1.1), .row A11 n12 c13 2 1 (ints r9), .row A78 xs80.length c79 39 2 ((recs GWindow.cells) xs80), .row A76 1 1 39 2 ((recs GWindow.cells) ([(GWindow.mk q72 q74)]))] := hs
          refine wpO_nil ⟨Or.inl (by decide), ?_⟩
          refine mYp (i := 12) rfl (by kernel_rfl) (by kernel_rfl) hf rfl rfl rfl (fun _ => Y_assign rfl rfl) ?_; clear hf; intro a hf
          refine mDone (by kernel_rfl) ?_
          clear hs0
          refine wpL_nil (Qb_normal ?_)
          refine wpL_region ?_
          refine sY hf hs rfl rfl rfl (Y_move rfl rfl) ?_; clear hf; intro a hf
          refine sY hf hs rfl rfl rfl (Y_add rfl rfl rfl) ?_; clear hf; intro a hf
          refine sY hf hs rfl rfl rfl (Y_assign rfl rfl) ?_; clear hf; intro a hf
          refine wpO_nil ?_
          refine wpL_nil (Ql_normal ?_)
          exact ⟨xs80, (IntKind.i64.wrap (x50 + 1)), A78, xs80.length, c79, hm69, rfl, (FrD.pick (FrD.pick (FrD.pick (FrD.pick hf.none hf rfl) hf rfl) hf rfl) hf rfl), hs.sel [0, 1, 2] (by decide)⟩
        · have hm69 := bif_f hm69 hb71
          refine wpL_exit (Ql_exit (Qb_exit ?_))
          exact ⟨xs45, A46, n47, c48, Option.some.inj hm69, hn49, (FrD.pick hf.none hf rfl), hs.sel [2] (by decide)⟩
    · rintro a w ⟨xs62, A63, n64, c65, hr_, hn66, hf, hs⟩
      subst hr_
      try dsimp only at hm
      refine wpL_seq ?_
      refine wpL_region ?_
      refine sY hf hs rfl rfl rfl (Y_move rfl rfl) ?_; clear hf; intro a hf
      refine sY hf hs rfl rfl rfl (Y_assign rfl rfl) ?_; clear hf; intro a hf
      refine sY hf hs rfl rfl rfl (Y_assign rfl rfl) ?_; clear hf; intro a hf
      refine wpO_nil ?_
      obtain rfl := Option.some.inj hm
      refine wpL_ret (ret_tmp2 rfl hf rfl rfl ?_)
      exact ⟨_, rfl, A63, n64, c65, rfl, hn66, hs⟩

set_option maxHeartbeats 2000000 in
set_option maxRecDepth 100000 in
theorem spec_l23DrawTimes_ok (F : Nat) (b_p0 : Nat) (p0_code : List Int) (A_p0_code : Option Addr) (n_p0_code c_p0_code : Nat) (hn_p0_code : n_p0_code = p0_code.length) (p0_at : Int) (p0_seed : Int) (r : (List GWindow × List GBond × List Int) × Int × Int) (W : World) (hm : spec_l23DrawTimes F p0_code p0_at p0_seed = some r) (h_p0_code : KR (muL [.blk b_p0 149 [.slice A_p0_code n_p0_code c_p0_code, .int .i64 p0_at, .int .i64 p0_seed]]) W A_p0_code (bytes p0_code)) (hst : St (muL [.blk b_p0 149 [.slice A_p0_code n_p0_code c_p0_code, .int .i64 p0_at, .int .i64 p0_seed]]) W W [.blk b_p0 149 [.slice A_p0_code n_p0_code c_p0_code, .int .i64 p0_at, .int .i64 p0_seed]]) :
    Calls Try.prog 69 [.pointer (some ⟨b_p0, 0, none⟩)].toArray W fun e w' => ∃ v, e = .returned v ∧ ∃ A237, ∃ n238, ∃ c239, ∃ A241, ∃ n242, ∃ c243, ∃ A245, ∃ n246, ∃ c247, v = .tuple #[.slice A237 n238 c239, .slice A241 n242 c243, .slice A245 n246 c247] ∧ n238 = r.1.1.length ∧ n242 = r.1.2.1.length ∧ n246 = r.1.2.2.length ∧ St (muL [.blk b_p0 149 [.slice A_p0_code n_p0_code c_p0_code, .int .i64 p0_at, .int .i64 p0_seed]]) W w' [.row A237 n238 c239 39 2 ((recs GWindow.cells) r.1.1), .row A241 n242 c243 95 3 ((recs GBond.cells) r.1.2.1), .row A245 n246 c247 2 1 (ints r.1.2.2), .blk b_p0 149 [.slice A_p0_code n_p0_code c_p0_code, .int .i64 r.2.1, .int .i64 r.2.2]] := by
  subst hn_p0_code
  unfold spec_l23DrawTimes at hm
  refine Calls.enter (N := 70) Try.func69 rfl rfl rfl (fun a hf => ?_)
  have hs := hst
  obtain ⟨w, hw_⟩ : ∃ w, w = W := ⟨W, rfl⟩
  clear hw_ w
  refine wpL_seq ?_
  refine wpL_region ?_
  refine sY hf hs rfl rfl rfl (Y_assign rfl rfl) ?_; clear hf; intro a hf
  refine sY hf hs rfl rfl rfl (Y_assign rfl rfl) ?_; clear hf; intro a hf
  refine sY hf hs rfl rfl rfl (Y_assign rfl rfl) ?_; clear hf; intro a hf
  refine wpO_nil ?_
  refine wpL_seq ?_
  refine wpL_region ?_
  refine sY hf hs rfl rfl rfl (Y_move rfl rfl) ?_; clear hf; intro a hf
  obtain ⟨r1, hc2, hm⟩ := bind_some hm
  refine sCall hf rfl rfl rfl rfl (cap := []) rfl rfl en64 (spec_l23Draw_ok F b_p0 p0_code A_p0_code p0_code.length c_p0_code rfl p0_at p0_seed _ _ hc2 (h_p0_code.pass hs [0]) (hs.sel [0] (by decide)).rebase) ?_; clear hf
  rintro _ w ⟨A3, n4, c5, A7, n8, c9, rfl, hn6, hn10, hs1⟩ a hf
  have hs : St (muL [.blk b_p0 149 [.slice A_p0_code p0_code.length c_p0_code, .int .i64 p0_at, .int .i64 p0_seed]]) W w [.row A3 n4 c5 39 2 ((recs GWindow.cells) r1.1.1), .row A7 n8 c9 95 3 ((recs GBond.cells) r1.1.2), .blk b_p0 149 [.slice A_p0_code p0_code.length c_p0_code, .int .i64 r1.2.1, .int .i64 r1.2.2]] := St.mutTail (La := []) (Lb := [.blk b_p0 149 [.slice A_p0_code p0_code.length c_p0_code, .int .i64 p0_at, .int .i64 p0_seed]]) (hs.sel [0] (by decide)) hs1
  clear hs1
  refine sY hf hs rfl rfl rfl (Y_move rfl rfl) ?_; clear hf; intro a hf
  refine sY hf hs rfl rfl rfl (Y_extract rfl rfl rfl) ?_; clear hf; intro a hf
  refine sY hf hs rfl rfl rfl (Y_extract rfl rfl rfl) ?_; clear hf; intro a hf
  refine sY hf hs rfl rfl rfl (Y_assign rfl rfl) ?_; clear hf; intro a hf
  refine sY hf hs rfl rfl rfl (Y_assign rfl rfl) ?_; clear hf; intro a hf
  refine wpO_nil ?_
  refine wpL_seq ?_
  refine wpL_region ?_
  refine sY hf hs rfl rfl rfl (Y_move rfl rfl) ?_; clear hf; intro a hf
  refine sY hf hs rfl rfl rfl (Y_move rfl rfl) ?_; clear hf; intro a hf
  refine sY hf hs rfl rfl rfl (Y_move rfl rfl) ?_; clear hf; intro a hf
  obtain ⟨r11, hc12, hm⟩ := bind_some hm
  refine sCall hf rfl rfl rfl rfl (cap := []) rfl rfl en93 (spec_l01Next_ok F b_p0 p0_code A_p0_code p0_code.length c_p0_code rfl r1.2.1 r1.2.2 2 _ _ hc12 (h_p0_code.pass hs [2]) (hs.sel [2] (by decide)).rebase) ?_; clear hf
  rintro _ w ⟨rfl, hs1⟩ a hf
  have hs : St (muL [.blk b_p0 149 [.slice A_p0_code p0_code.length c_p0_code, .int .i64 p0_at, .int .i64 p0_seed]]) W w [.row A3 n4 c5 39 2 ((recs GWindow.cells) r1.1.1), .row A7 n8 c9 95 3 ((recs GBond.cells) r1.1.2), .blk b_p0 149 [.slice A_p0_code p0_code.length c_p0_code, .int .i64 r11.2.1, .int .i64 r11.2.2]] := St.mutTail (La := [.row A3 n4 c5 39 2 ((recs GWindow.cells) r1.1.1), .row A7 n8 c9 95 3 ((recs GBond.cells) r1.1.2)]) (Lb := [.blk b_p0 149 [.slice A_p0_code p0_code.length c_p0_code, .int .i64 r1.2.1, .int .i64 r1.2.2]]) (hs.sel [0, 1, 2] (by decide)) hs1
  clear hs1
  refine sY hf hs rfl rfl rfl (Y_eql rfl rfl rfl) ?_; clear hf; intro a hf
  obtain ⟨r13, hc14, hm⟩ := bind_some hm
  refine sCall hf rfl rfl rfl rfl (cap := []) rfl rfl en67 (spec_l23Code_ok F r1.1.1 A3 n4 c5 hn6 r1.1.2 A7 n8 c9 hn10 (r11.1 == 0) _ _ hc14 (hs.rd (i := 0) rfl) (hs.rd (i := 1) rfl)) ?_; clear hf
  rintro _ w ⟨A15, n16, c17, rfl, hn18, hs1⟩ a hf
  have hs : St (muL [.blk b_p0 149 [.slice A_p0_code p0_code.length c_p0_code, .int .i64 p0_at, .int .i64 p0_seed]]) W w [.row A3 n4 c5 39 2 ((recs GWindow.cells) r1.1.1), .row A7 n8 c9 95 3 ((recs GBond.cells) r1.1.2), .blk b_p0 149 [.slice A_p0_code p0_code.length c_p0_code, .int .i64 r11.2.1, .int .i64 r11.2.2], .row A15 n16 c17 2 1 (ints r13.1)] := hs.join hs1
  clear hs1
  refine sY hf hs rfl rfl rfl (Y_move rfl rfl) ?_; clear hf; intro a hf
  refine sY hf hs rfl rfl rfl (Y_extract rfl rfl rfl) ?_; clear hf; intro a hf
  refine sY hf hs rfl rfl rfl (Y_extract rfl rfl rfl) ?_; clear hf; intro a hf
  refine sY hf hs rfl rfl rfl (Y_assign rfl rfl) ?_; clear hf; intro a hf
  refine sY hf hs rfl rfl rfl (Y_assign rfl rfl) ?_; clear hf; intro a hf
  refine wpO_nil ?_
  refine wpL_seq ?_
  refine wpL_seq ?_
  refine wpL_region ?_
  refine sY hf hs rfl rfl rfl (Y_move rfl rfl) ?_; clear hf; intro a hf
  refine sY hf hs rfl rfl rfl (Y_neq rfl rfl rfl) ?_; clear hf; intro a hf
  refine wpO_nil ?_
  obtain ⟨r92, hj93, hm⟩ := bind_some hm
  refine wpL_cut (fun a w => ∃ x85 : Int, ∃ x86 : Int, ∃ xs87 : List Int, ∃ A88, ∃ n89, ∃ c90, (x85, x86, xs87) = r92 ∧ n89 = xs87.length ∧ Fr a 70 [(0, .pointer (some ⟨b_p0, 0, none⟩)), (5, .slice A3 n4 c5), (6, .slice A7 n8 c9), (7, .slice A88 n89 c90)] ∧ St (muL [.blk b_p0 149 [.slice A_p0_code p0_code.length c_p0_code, .int .i64 p0_at, .int .i64 p0_seed]]) W w [.blk b_p0 149 [.slice A_p0_code p0_code.length c_p0_code, .int .i64 x85, .int .i64 x86], .row A3 n4 c5 39 2 ((recs GWindow.cells) r1.1.1), .row A7 n8 c9 95 3 ((recs GBond.cells) r1.1.2), .row A88 n89 c90 2 1 (ints xs87)]) ?_ ?_
  · refine wpL_cond hf rfl (fun hb94 => ?_) (fun hb94 => ?_)
    · have hj93 := bif_t hj93 hb94
      refine wpL_seq ?_
      refine wpL_region ?_
      refine sEmpty hf hs rfl rfl rfl rfl el28 ti2 ?_; clear hf hs; intro a w A95 hs hf
      have hs : St (muL [.blk b_p0 149 [.slice A_p0_code p0_code.length c_p0_code, .int .i64 p0_at, .int .i64 p0_seed]]) W w [.row A3 n4 c5 39 2 ((recs GWindow.cells) r1.1.1), .row A7 n8 c9 95 3 ((recs GBond.cells) r1.1.2), .blk b_p0 149 [.slice A_p0_code p0_code.length c_p0_code, .int .i64 r11.2.1, .int .i64 r11.2.2], .row A15 n16 c17 2 1 (ints r13.1), .row A95 0 0 2 1 (ints ([] : List Int))] := hs
      refine sY hf hs rfl rfl rfl (Y_assign rfl rfl) ?_; clear hf; intro a hf
      refine wpO_nil ?_
      refine wpL_seq ?_
      refine wpL_region ?_
      refine sY hf hs rfl rfl rfl (Y_assign rfl rfl) ?_; clear hf; intro a hf
      refine wpO_nil ?_
      obtain ⟨r147, hl148, hj93⟩ := bind_some hj93
      refine wpL_block (fun a w => ∃ x140 : Int, ∃ x141 : Int, ∃ xs142 : List Int, ∃ A143, ∃ n144, ∃ c145, (x140, x141, xs142) = r147 ∧ n144 = xs142.length ∧ Fr a 70 [(0, .pointer (some ⟨b_p0, 0, none⟩)), (5, .slice A3 n4 c5), (6, .slice A7 n8 c9), (7, .slice A143 n144 c145)] ∧ St (muL [.blk b_p0 149 [.slice A_p0_code p0_code.length c_p0_code, .int .i64 p0_at, .int .i64 p0_seed]]) W w [.blk b_p0 149 [.slice A_p0_code p0_code.length c_p0_code, .int .i64 x140, .int .i64 x141], .row A3 n4 c5 39 2 ((recs GWindow.cells) r1.1.1), .row A7 n8 c9 95 3 ((recs GBond.cells) r1.1.2), .row A143 n144 c145 2 1 (ints xs142)]) ?_ ?_
      · refine wpL_loop (fun n a w => ∃ x123 : Int, ∃ x124 : Int, ∃ xs125 : List Int, ∃ x130 : Int, ∃ A126, ∃ n127, ∃ c128, spec_l23DrawTimes_L2 F p0_code r1 n x123 x124 xs125 x130 = some r147 ∧ n127 = xs125.length ∧ Fr a 70 [(0, .pointer (some ⟨b_p0, 0, none⟩)), (5, .slice A3 n4 c5), (6, .slice A7 n8 c9), (7, .slice A126 n127 c128), (9, .int .i64 x130)] ∧ St (muL [.blk b_p0 149 [.slice A_p0_code p0_code.length c_p0_code, .int .i64 p0_at, .int .i64 p0_seed]]) W w [.blk b_p0 149 [.slice A_p0_code p0_code.length c_p0_code, .int .i64 x123, .int .i64 x124], .row A3 n4 c5 39 2 ((recs GWindow.cells) r1.1.1), .row A7 n8 c9 95 3 ((recs GBond.cells) r1.1.2), .row A126 n127 c128 2 1 (ints xs125)]) F ?_ ?_ ?_
        · exact ⟨r11.2.1, r11.2.2, ([] : List Int), 0, A95, 0, 0, hl148, rfl, (FrD.pick (FrD.pick (FrD.pick (FrD.pick (FrD.pick hf.none hf rfl) hf rfl) hf rfl) hf rfl) hf rfl), hs.sel [2, 0, 1, 4] (by decide)⟩
        · rintro a w ⟨x123, x124, xs125, x130, A126, n127, c128, h0_, -, -, -⟩; simp [spec_l23DrawTimes_L2] at h0_
        · rintro n150 a w ⟨x123, x124, xs125, x130, A126, n127, c128, hm149, hn129, hf, hs⟩
          rw [spec_l23DrawTimes_L2] at hm149
          refine wpL_seq ?_
          refine wpL_seq ?_
          refine wpL_region ?_
          refine sY hf hs rfl rfl rfl (Y_move rfl rfl) ?_; clear hf; intro a hf
          refine sY hf hs rfl rfl rfl (Y_move rfl rfl) ?_; clear hf; intro a hf
          refine sY hf hs rfl rfl rfl (Y_lenH rfl rfl el24 hn6) ?_; clear hf; intro a hf
          refine sY hf hs rfl rfl rfl (Y_lss rfl rfl rfl) ?_; clear hf; intro a hf
          refine wpO_nil ?_
          refine wpL_cond hf rfl (fun hb151 => ?_) (fun hb151 => ?_)
          · have hm149 := bif_t hm149 hb151
            refine wpL_skip ?_
            refine wpL_seq ?_
            refine wpL_block0 ?_
            refine wpL_region ?_
            refine sY hf hs rfl rfl rfl (Y_move rfl rfl) ?_; clear hf; intro a hf
            refine sY hf hs rfl rfl rfl (Y_move rfl rfl) ?_; clear hf; intro a hf
            obtain ⟨r152, hc153, hm149⟩ := bind_some hm149
            refine sCall hf rfl rfl rfl rfl (cap := []) rfl rfl en93 (spec_l01Next_ok F b_p0 p0_code A_p0_code p0_code.length c_p0_code rfl x123 x124 40 _ _ hc153 (h_p0_code.pass hs [0]) (hs.sel [0] (by decide)).rebase) ?_; clear hf
            rintro _ w ⟨rfl, hs1⟩ a hf
            have hs : St (muL [.blk b_p0 149 [.slice A_p0_code p0_code.length c_p0_code, .int .i64 p0_at, .int .i64 p0_seed]]) W w [.row A3 n4 c5 39 2 ((recs GWindow.cells) r1.1.1), .row A7 n8 c9 95 3 ((recs GBond.cells) r1.1.2), .row A126 n127 c128 2 1 (ints xs125), .blk b_p0 149 [.slice A_p0_code p0_code.length c_p0_code, .int .i64 r152.2.1, .int .i64 r152.2.2]] := St.mutTail (La := [.row A3 n4 c5 39 2 ((recs GWindow.cells) r1.1.1), .row A7 n8 c9 95 3 ((recs GBond.cells) r1.1.2), .row A126 n127 c128 2 1 (ints xs125)]) (Lb := [.blk b_p0 149 [.slice A_p0_code p0_code.length c_p0_code, .int .i64 x123, .int .i64 x124]]) (hs.sel [1, 2, 3, 0] (by decide)) hs1
            clear hs1
            refine sBuildSlice (parts := [(0, .tmp 36)]) (vs := [.int .i64 r152.1]) (cells := [.int .i64 r152.1]) hf hs rfl rfl rfl rfl rfl el28 ti2 rfl rfl rfl rfl ?_; clear hf hs; intro a w A154 hs hA155 hf
            have hs : St (muL [.blk b_p0 149 [.slice A_p0_code p0_code.length c_p0_code, .int .i64 p0_at, .int .i64 p0_seed]]) W w [.row A3 n4 c5 39 2 ((recs GWindow.cells) r1.1.1), .row A7 n8 c9 95 3 ((recs GBond.cells) r1.1.2), .row A126 n127 c128 2 1 (ints xs125), .blk b_p0 149 [.slice A_p0_code p0_code.length c_p0_code, .int .i64 r152.2.1, .int .i64 r152.2.2], .row A154 1 1 2 1 (ints ([r152.1]))] := hs
            obtain ⟨xs158, ha159, hm149⟩ := bind_some hm149
            refine sAppendL (i := 2) (xs := xs125) (ys := [r152.1]) (enc := ints) hf hs rfl rfl rfl rfl rfl rfl hn129 rfl rfl ha159 el28 ti2 rfl rfl rfl (hs.rd (i := 4) rfl) (Nat.succ_pos _) ints_len1 ints_append ints_one ?_; clear hf hs; intro a w A156 c157 hs hf
            have hs : St (muL [.blk b_p0 149 [.slice A_p0_code p0_code.length c_p0_code, .int .i64 p0_at, .int .i64 p0_seed]]) W w [.row A3 n4 c5 39 2 ((recs GWindow.cells) r1.1.1), .row A7 n8 c9 95 3 ((recs GBond.cells) r1.1.2), .row A156 xs158.length c157 2 1 (ints xs158), .blk b_p0 149 [.slice A_p0_code p0_code.length c_p0_code, .int .i64 r152.2.1, .int .i64 r152.2.2], .row A154 1 1 2 1 (ints ([r152.1]))] := hs
            refine sY hf hs rfl rfl rfl (Y_assign rfl rfl) ?_; clear hf; intro a hf
            refine wpO_nil ?_
            refine wpL_nil (Qb_normal ?_)
            refine wpL_region ?_
            refine sY hf hs rfl rfl rfl (Y_move rfl rfl) ?_; clear hf; intro a hf
            refine sY hf hs rfl rfl rfl (Y_add rfl rfl rfl) ?_; clear hf; intro a hf
            refine sY hf hs rfl rfl rfl (Y_assign rfl rfl) ?_; clear hf; intro a hf
            refine wpO_nil ?_
            refine wpL_nil (Ql_normal ?_)
            exact ⟨r152.2.1, r152.2.2, xs158, (IntKind.i64.wrap (x130 + 1)), A156, xs158.length, c157, hm149, rfl, (FrD.pick (FrD.pick (FrD.pick (FrD.pick (FrD.pick hf.none hf rfl) hf rfl) hf rfl) hf rfl) hf rfl), hs.sel [3, 0, 1, 2] (by decide)⟩
          · have hm149 := bif_f hm149 hb151
            refine wpL_exit (Ql_exit (Qb_exit ?_))
            exact ⟨x123, x124, xs125, A126, n127, c128, Option.some.inj hm149, hn129, (FrD.pick (FrD.pick (FrD.pick (FrD.pick hf.none hf rfl) hf rfl) hf rfl) hf rfl), hs⟩
      · rintro a w ⟨x140, x141, xs142, A143, n144, c145, hr_, hn146, hf, hs⟩
        subst hr_
        try dsimp only at hj93
        refine wpL_nil (then_normal ?_)
        exact ⟨x140, x141, xs142, A143, n144, c145, Option.some.inj hj93, hn146, (FrD.pick (FrD.pick (FrD.pick (FrD.pick hf.none hf rfl) hf rfl) hf rfl) hf rfl), hs⟩
    · have hj93 := bif_f hj93 hb94
      refine wpL_skip ?_
      refine wpL_nil (then_normal ?_)
      exact ⟨r11.2.1, r11.2.2, r13.1, A15, n16, c17, Option.some.inj hj93, hn18, (FrD.pick (FrD.pick (FrD.pick (FrD.pick hf.none hf rfl) hf rfl) hf rfl) hf rfl), hs.sel [2, 0, 1, 3] (by decide)⟩
  · rintro a w ⟨x85, x86, xs87, A88, n89, c90, hr_, hn91, hf, hs⟩
    subst hr_
    try dsimp only at hm
    refine wpL_seq ?_
    refine wpL_seq ?_
    refine wpL_region ?_
    refine sY hf hs rfl rfl rfl (Y_move rfl rfl) ?_; clear hf; intro a hf
    refine sY hf hs rfl rfl rfl (Y_lenH rfl rfl el28 hn91) ?_; clear hf; intro a hf
    refine sY hf hs rfl rfl rfl (Y_gtr rfl rfl rfl) ?_; clear hf; intro a hf
    refine wpO_nil ?_
    obtain ⟨r201, hj202, hm⟩ := bind_some hm
    refine wpL_cut (fun a w => ∃ x194 : Int, ∃ x195 : Int, ∃ xs196 : List Int, ∃ A197, ∃ n198, ∃ c199, (x194, x195, xs196) = r201 ∧ n198 = xs196.length ∧ Fr a 70 [(5, .slice A3 n4 c5), (6, .slice A7 n8 c9), (7, .slice A197 n198 c199)] ∧ St (muL [.blk b_p0 149 [.slice A_p0_code p0_code.length c_p0_code, .int .i64 p0_at, .int .i64 p0_seed]]) W w [.blk b_p0 149 [.slice A_p0_code p0_code.length c_p0_code, .int .i64 x194, .int .i64 x195], .row A3 n4 c5 39 2 ((recs GWindow.cells) r1.1.1), .row A7 n8 c9 95 3 ((recs GBond.cells) r1.1.2), .row A197 n198 c199 2 1 (ints xs196)]) ?_ ?_
    · refine wpL_cond hf rfl (fun hb203 => ?_) (fun hb203 => ?_)
      · have hj202 := bif_t hj202 hb203
        refine wpL_seq ?_
        refine wpL_region ?_
        refine sY hf hs rfl rfl rfl (Y_move rfl rfl) ?_; clear hf; intro a hf
        obtain ⟨r204, hc205, hj202⟩ := bind_some hj202
        refine sCall hf rfl rfl rfl rfl (cap := []) rfl rfl en93 (spec_l01Next_ok F b_p0 p0_code A_p0_code p0_code.length c_p0_code rfl x85 x86 8 _ _ hc205 (h_p0_code.pass hs [0]) (hs.sel [0] (by decide)).rebase) ?_; clear hf
        rintro _ w ⟨rfl, hs1⟩ a hf
        have hs : St (muL [.blk b_p0 149 [.slice A_p0_code p0_code.length c_p0_code, .int .i64 p0_at, .int .i64 p0_seed]]) W w [.row A3 n4 c5 39 2 ((recs GWindow.cells) r1.1.1), .row A7 n8 c9 95 3 ((recs GBond.cells) r1.1.2), .row A88 n89 c90 2 1 (ints xs87), .blk b_p0 149 [.slice A_p0_code p0_code.length c_p0_code, .int .i64 r204.2.1, .int .i64 r204.2.2]] := St.mutTail (La := [.row A3 n4 c5 39 2 ((recs GWindow.cells) r1.1.1), .row A7 n8 c9 95 3 ((recs GBond.cells) r1.1.2), .row A88 n89 c90 2 1 (ints xs87)]) (Lb := [.blk b_p0 149 [.slice A_p0_code p0_code.length c_p0_code, .int .i64 x85, .int .i64 x86]]) (hs.sel [1, 2, 3, 0] (by decide)) hs1
        clear hs1
        refine wpO_nil ?_
        refine wpL_block0 ?_
        refine wpL_seq ?_
        refine wpL_seq ?_
        refine wpL_region ?_
        refine sY hf hs rfl rfl rfl (Y_eql rfl rfl rfl) ?_; clear hf; intro a hf
        refine sY hf hs rfl rfl rfl (Y_assign rfl rfl) ?_; clear hf; intro a hf
        refine wpO_nil ?_
        obtain ⟨r208, hj209, hj202⟩ := bind_some hj202
        refine wpL_cut (fun a w => ∃ b207 : Bool, b207 = r208 ∧ Fr a 70 [(0, .pointer (some ⟨b_p0, 0, none⟩)), (5, .slice A3 n4 c5), (6, .slice A7 n8 c9), (7, .slice A88 n89 c90), (43, .int .i64 r204.1), (44, .bool b207)] ∧ St (muL [.blk b_p0 149 [.slice A_p0_code p0_code.length c_p0_code, .int .i64 p0_at, .int .i64 p0_seed]]) W w [.blk b_p0 149 [.slice A_p0_code p0_code.length c_p0_code, .int .i64 r204.2.1, .int .i64 r204.2.2], .row A3 n4 c5 39 2 ((recs GWindow.cells) r1.1.1), .row A7 n8 c9 95 3 ((recs GBond.cells) r1.1.2), .row A88 n89 c90 2 1 (ints xs87)]) ?_ ?_
        · refine wpL_cond hf rfl (fun hb210 => ?_) (fun hb210 => ?_)
          · have hj209 := bif_t hj209 hb210
            refine wpL_skip ?_
            refine wpL_nil (then_normal ?_)
            exact ⟨(r204.1 == 0), Option.some.inj hj209, (FrD.pick (FrD.pick (FrD.pick (FrD.pick (FrD.pick (FrD.pick hf.none hf rfl) hf rfl) hf rfl) hf rfl) hf rfl) hf rfl), hs.sel [3, 0, 1, 2] (by decide)⟩
          · have hj209 := bif_f hj209 hb210
            refine wpL_region ?_
            refine sY hf hs rfl rfl rfl (Y_eql rfl rfl rfl) ?_; clear hf; intro a hf
            refine sY hf hs rfl rfl rfl (Y_assign rfl rfl) ?_; clear hf; intro a hf
            refine wpO_nil ?_
            refine wpL_nil (then_normal ?_)
            exact ⟨(r204.1 == 1), Option.some.inj hj209, (FrD.pick (FrD.pick (FrD.pick (FrD.pick (FrD.pick (FrD.pick hf.none hf rfl) hf rfl) hf rfl) hf rfl) hf rfl) hf rfl), hs.sel [3, 0, 1, 2] (by decide)⟩
        · rintro a w ⟨b207, hr_, hf, hs⟩
          subst hr_
          try dsimp only at hj202
          refine wpL_cond hf rfl (fun hb211 => ?_) (fun hb211 => ?_)
          · have hj202 := bif_t hj202 hb211
            refine wpL_seq ?_
            refine wpL_region ?_
            refine sY hf hs rfl rfl rfl (Y_move rfl rfl) ?_; clear hf; intro a hf
            refine sY hf hs rfl rfl rfl (Y_move rfl rfl) ?_; clear hf; intro a hf
            refine sY hf hs rfl rfl rfl (Y_lenH rfl rfl el28 hn91) ?_; clear hf; intro a hf
            obtain ⟨r212, hc213, hj202⟩ := bind_some hj202
            refine sCall hf rfl rfl rfl rfl (cap := []) rfl rfl en93 (spec_l01Next_ok F b_p0 p0_code A_p0_code p0_code.length c_p0_code rfl r204.2.1 r204.2.2 (xs87.length : Int) _ _ hc213 (h_p0_code.pass hs [0]) (hs.sel [0] (by decide)).rebase) ?_; clear hf
            rintro _ w ⟨rfl, hs1⟩ a hf
            have hs : St (muL [.blk b_p0 149 [.slice A_p0_code p0_code.length c_p0_code, .int .i64 p0_at, .int .i64 p0_seed]]) W w [.row A3 n4 c5 39 2 ((recs GWindow.cells) r1.1.1), .row A7 n8 c9 95 3 ((recs GBond.cells) r1.1.2), .row A88 n89 c90 2 1 (ints xs87), .blk b_p0 149 [.slice A_p0_code p0_code.length c_p0_code, .int .i64 r212.2.1, .int .i64 r212.2.2]] := St.mutTail (La := [.row A3 n4 c5 39 2 ((recs GWindow.cells) r1.1.1), .row A7 n8 c9 95 3 ((recs GBond.cells) r1.1.2), .row A88 n89 c90 2 1 (ints xs87)]) (Lb := [.blk b_p0 149 [.slice A_p0_code p0_code.length c_p0_code, .int .i64 r204.2.1, .int .i64 r204.2.2]]) (hs.sel [1, 2, 3, 0] (by decide)) hs1
            clear hs1
            refine sY hf hs rfl rfl rfl (Y_assign rfl rfl) ?_; clear hf; intro a hf
            refine wpO_nil ?_
            refine wpL_drawM [.row A3 n4 c5 39 2 ((recs GWindow.cells) r1.1.1), .row A7 n8 c9 95 3 ((recs GBond.cells) r1.1.2), .row A88 n89 c90 2 1 (ints xs87)] [11] (by kernel_rfl) hs ?_; clear hs; intro w hs
            have hs0 : St (muL [.blk b_p0 149 [.slice A_p0_code p0_code.length c_p0_code, .int .i64 p0_at, .int .i64 p0_seed]]) W w [.row A3 n4 c5 39 2 ((recs GWindow.cells) r1.1.1), .row A7 n8 c9 95 3 ((recs GBond.cells) r1.1.2), .row A88 n89 c90 2 1 (ints xs87)] := hs.sel [0, 1, 2] (by decide)
            refine mYp (i := 0) rfl (by kernel_rfl) (by kernel_rfl) hf rfl rfl rfl (fun _ => Y_move rfl rfl) ?_; clear hf; intro a hf
            refine mYp (i := 1) rfl (by kernel_rfl) (by kernel_rfl) hf rfl rfl rfl (fun _ => Y_move rfl rfl) ?_; clear hf; intro a hf
            refine mYp (i := 2) rfl (by kernel_rfl) (by kernel_rfl) hf rfl rfl rfl (fun _ => Y_move rfl rfl) ?_; clear hf; intro a hf
            refine mYp (i := 3) rfl (by kernel_rfl) (by kernel_rfl) hf rfl rfl rfl (fun _ => Y_move rfl rfl) ?_; clear hf; intro a hf
            obtain ⟨q222, hi223, hj202⟩ := bind_some hj202
            obtain ⟨hi223a, hi223b, hi223q⟩ := idx_some hi223
            refine mYp (i := 4) rfl (by kernel_rfl) (by kernel_rfl) hf rfl rfl rfl (fun _ => Y_index rfl rfl rfl el28 ti2 (Rd.isAt (hs.rd (i := 2) rfl) (at1 (ints_at hi223q))) hi223a (ltn hn91 hi223b)) ?_; clear hf; intro a hf
            refine mY (i := 5) [[]] rfl (by kernel_rfl) (by kernel_rfl) hf hs0 rfl rfl rfl (Y_load_rd rfl rfl (fun w hs => hs.rd (i := 2) rfl) (at1 (ints_at hi223q)) ag2) ?_; clear hf; intro a hf
            refine mYp (i := 6) rfl (by kernel_rfl) (by kernel_rfl) hf rfl rfl rfl (fun _ => Y_move rfl rfl) ?_; clear hf; intro a hf
            refine mRun (i := 7) rfl (by kernel_rfl) ?_
            obtain ⟨r224, hc225, hj202⟩ := bind_some hj202
            refine sCall hf rfl rfl rfl rfl (cap := []) rfl rfl en93 (spec_l01Next_ok F b_p0 p0_code A_p0_code p0_code.length c_p0_code rfl r212.2.1 r212.2.2 5 _ _ hc225 (h_p0_code.pass hs [3]) (hs.sel [3] (by decide)).rebase) ?_; clear hf
            rintro _ w ⟨rfl, hs1⟩ a hf
            have hs : St (muL [.blk b_p0 149 [.slice A_p0_code p0_code.length c_p0_code, .int .i64 p0_at, .int .i64 p0_seed]]) W w [.row A3 n4 c5 39 2 ((recs GWindow.cells) r1.1.1), .row A7 n8 c9 95 3 ((recs GBond.cells) r1.1.2), .row A88 n89 c90 2 1 (ints xs87), .blk b_p0 149 [.slice A_p0_code p0_code.length c_p0_code, .int .i64 r224.2.1, .int .i64 r224.2.2]] := St.mutTail (La := [.row A3 n4 c5 39 2 ((recs GWindow.cells) r1.1.1), .row A7 n8 c9 95 3 ((recs GBond.cells) r1.1.2), .row A88 n89 c90 2 1 (ints xs87)]) (Lb := [.blk b_p0 149 [.slice A_p0_code p0_code.length c_p0_code, .int .i64 r212.2.1, .int .i64 r212.2.2]]) (hs.sel [0, 1, 2, 3] (by decide)) hs1
            clear hs1
            have hs0 : St (muL [.blk b_p0 149 [.slice A_p0_code p0_code.length c_p0_code, .int .i64 p0_at, .int .i64 p0_seed]]) W w [.row A3 n4 c5 39 2 ((recs GWindow.cells) r1.1.1), .row A7 n8 c9 95 3 ((recs GBond.cells) r1.1.2), .row A88 n89 c90 2 1 (ints xs87)] := hs.sel [0, 1, 2] (by decide)
            refine wpO_nil ⟨Or.inr (fun _ => hs0), ?_⟩
            refine mYp (i := 8) rfl (by kernel_rfl) (by kernel_rfl) hf rfl rfl rfl (fun _ => Y_add rfl rfl rfl) ?_; clear hf; intro a hf
            refine mYp (i := 9) rfl (by kernel_rfl) (by kernel_rfl) hf rfl rfl rfl (fun _ => Y_sub rfl rfl rfl) ?_; clear hf; intro a hf
            obtain ⟨q226, hi227, hj202⟩ := bind_some hj202
            obtain ⟨hi227a, hi227b, hi227q⟩ := idx_some hi227
            refine mYp (i := 10) rfl (by kernel_rfl) (by kernel_rfl) hf rfl rfl rfl (fun _ => Y_index rfl rfl rfl el28 ti2 (Rd.isAt (hs.rd (i := 2) rfl) (at1 (ints_at hi227q))) hi227a (ltn hn91 hi227b)) ?_; clear hf; intro a hf
            refine mRun (i := 11) rfl (by kernel_rfl) ?_
            obtain ⟨xs228, hu229, hj202⟩ := bind_some hj202
            refine sStoreL (i := 2) (us := [.int .i64 (IntKind.i64.wrap ((IntKind.i64.wrap (q222 + r224.1)) - 2))]) (enc := ints) hf hs rfl rfl rfl rfl rfl rfl hn91 hu229 ti2 rfl rfl rfl rfl rfl ints_len1 (ints_set (IntKind.i64.wrap ((IntKind.i64.wrap (q222 + r224.1)) - 2))) ?_; clear hs; intro w hs
            have hs : St (muL [.blk b_p0 149 [.slice A_p0_code p0_code.length c_p0_code, .int .i64 p0_at, .int .i64 p0_seed]]) W w [.row A3 n4 c5 39 2 ((recs GWindow.cells) r1.1.1), .row A7 n8 c9 95 3 ((recs GBond.cells) r1.1.2), .row A88 n89 c90 2 1 (ints xs228), .blk b_p0 149 [.slice A_p0_code p0_code.length c_p0_code, .int .i64 r224.2.1, .int .i64 r224.2.2]] := hs
            refine wpO_nil ⟨Or.inl (by decide), ?_⟩
            refine mDone (by kernel_rfl) ?_
            clear hs0
            refine wpL_nil (Qb_normal ?_)
            refine wpL_nil (then_normal ?_)
            exact ⟨r224.2.1, r224.2.2, xs228, A88, n89, c90, Option.some.inj hj202, ((hn91).trans (upd_len hu229).symm), (FrD.pick (FrD.pick (FrD.pick hf.none hf rfl) hf rfl) hf rfl), hs.sel [3, 0, 1, 2] (by decide)⟩
          · have hj202 := bif_f hj202 hb211
            refine wpL_seq ?_
            refine wpL_region ?_
            refine sY hf hs rfl rfl rfl (Y_eql rfl rfl rfl) ?_; clear hf; intro a hf
            refine sY hf hs rfl rfl rfl (Y_assign rfl rfl) ?_; clear hf; intro a hf
            refine wpO_nil ?_
            refine wpL_cond hf rfl (fun hb230 => ?_) (fun hb230 => ?_)
            · have hj202 := bif_t hj202 hb230
              refine wpL_region ?_
              refine sY hf hs rfl rfl rfl (Y_move rfl rfl) ?_; clear hf; intro a hf
              refine sBuildSlice (parts := [(0, .const (.int .i64 0))]) (vs := [.int .i64 0]) (cells := [.int .i64 0]) hf hs rfl rfl rfl rfl rfl el28 ti2 rfl rfl rfl rfl ?_; clear hf hs; intro a w A231 hs hA232 hf
              have hs : St (muL [.blk b_p0 149 [.slice A_p0_code p0_code.length c_p0_code, .int .i64 p0_at, .int .i64 p0_seed]]) W w [.blk b_p0 149 [.slice A_p0_code p0_code.length c_p0_code, .int .i64 r204.2.1, .int .i64 r204.2.2], .row A3 n4 c5 39 2 ((recs GWindow.cells) r1.1.1), .row A7 n8 c9 95 3 ((recs GBond.cells) r1.1.2), .row A88 n89 c90 2 1 (ints xs87), .row A231 1 1 2 1 (ints ([0]))] := hs
              obtain ⟨xs235, ha236, hj202⟩ := bind_some hj202
              refine sAppendL (i := 3) (xs := xs87) (ys := [0]) (enc := ints) hf hs rfl rfl rfl rfl rfl rfl hn91 rfl rfl ha236 el28 ti2 rfl rfl rfl (hs.rd (i := 4) rfl) (Nat.succ_pos _) ints_len1 ints_append ints_one ?_; clear hf hs; intro a w A233 c234 hs hf
              have hs : St (muL [.blk b_p0 149 [.slice A_p0_code p0_code.length c_p0_code, .int .i64 p0_at, .int .i64 p0_seed]]) W w [.blk b_p0 149 [.slice A_p0_code p0_code.length c_p0_code, .int .i64 r204.2.1, .int .i64 r204.2.2], .row A3 n4 c5 39 2 ((recs GWindow.cells) r1.1.1), .row A7 n8 c9 95 3 ((recs GBond.cells) r1.1.2), .row A233 xs235.length c234 2 1 (ints xs235), .row A231 1 1 2 1 (ints ([0]))] := hs
              refine sY hf hs rfl rfl rfl (Y_assign rfl rfl) ?_; clear hf; intro a hf
              refine wpO_nil ?_
              refine wpL_nil (Qb_normal ?_)
              refine wpL_nil (then_normal ?_)
              exact ⟨r204.2.1, r204.2.2, xs235, A233, xs235.length, c234, Option.some.inj hj202, rfl, (FrD.pick (FrD.pick (FrD.pick hf.none hf rfl) hf rfl) hf rfl), hs.sel [0, 1, 2, 3] (by decide)⟩
            · have hj202 := bif_f hj202 hb230
              refine wpL_skip ?_
              refine wpL_nil (Qb_normal ?_)
              refine wpL_nil (then_normal ?_)
              exact ⟨r204.2.1, r204.2.2, xs87, A88, n89, c90, Option.some.inj hj202, hn91, (FrD.pick (FrD.pick (FrD.pick hf.none hf rfl) hf rfl) hf rfl), hs⟩
      · have hj202 := bif_f hj202 hb203
        refine wpL_skip ?_
        refine wpL_nil (then_normal ?_)
        exact ⟨x85, x86, xs87, A88, n89, c90, Option.some.inj hj202, hn91, (FrD.pick (FrD.pick (FrD.pick hf.none hf rfl) hf rfl) hf rfl), hs⟩
    · rintro a w ⟨x194, x195, xs196, A197, n198, c199, hr_, hn200, hf, hs⟩
      subst hr_
      try dsimp only at hm
      refine wpL_seq ?_
      refine wpL_region ?_
      refine sY hf hs rfl rfl rfl (Y_move rfl rfl) ?_; clear hf; intro a hf
      refine sY hf hs rfl rfl rfl (Y_move rfl rfl) ?_; clear hf; intro a hf
      refine sY hf hs rfl rfl rfl (Y_move rfl rfl) ?_; clear hf; intro a hf
      refine sY hf hs rfl rfl rfl (Y_assign rfl rfl) ?_; clear hf; intro a hf
      refine sY hf hs rfl rfl rfl (Y_assign rfl rfl) ?_; clear hf; intro a hf
      refine sY hf hs rfl rfl rfl (Y_assign rfl rfl) ?_; clear hf; intro a hf
      refine wpO_nil ?_
      obtain rfl := Option.some.inj hm
      refine wpL_ret (ret_tmp3 rfl hf rfl rfl rfl ?_)
      exact ⟨_, rfl, A3, n4, c5, A7, n8, c9, A197, n198, c199, rfl, hn6, hn10, hn200, hs.sel [1, 2, 3, 0] (by decide)⟩

set_option maxRecDepth 100000 in
theorem spec_DrawIsWindowSolution_ok (F : Nat) (p0_code : List Int) (A_p0_code_1 : Option Addr) (n_p0_code_1 c_p0_code_1 : Nat) (hn_p0_code_1 : n_p0_code_1 = p0_code.length) (r : List GWindow × List GBond × List Int) (W : World) (hm : spec_DrawIsWindowSolution F p0_code = some r) (h_p0_code_1 : Rd W A_p0_code_1 (bytes p0_code)) :
    Calls Try.prog 17 [.slice A_p0_code_1 n_p0_code_1 c_p0_code_1].toArray W fun e w' => ∃ v, e = .returned v ∧ ∃ A18, ∃ n19, ∃ c20, ∃ A22, ∃ n23, ∃ c24, ∃ A26, ∃ n27, ∃ c28, v = .tuple #[.slice A18 n19 c20, .slice A22 n23 c24, .slice A26 n27 c28] ∧ n19 = r.1.length ∧ n23 = r.2.1.length ∧ n27 = r.2.2.length ∧ St [] W w' [.row A18 n19 c20 39 2 ((recs GWindow.cells) r.1), .row A22 n23 c24 95 3 ((recs GBond.cells) r.2.1), .row A26 n27 c28 2 1 (ints r.2.2)] := by
  subst hn_p0_code_1
  unfold spec_DrawIsWindowSolution at hm
  refine Calls.enter (N := 11) Try.func17 rfl rfl rfl (fun a hf => ?_)
  have hs := St.start W
  obtain ⟨w, hw_⟩ : ∃ w, w = W := ⟨W, rfl⟩
  clear hw_ w
  refine wpL_seq ?_
  refine wpL_region ?_
  refine sY hf hs rfl rfl rfl (Y_assign rfl rfl) ?_; clear hf; intro a hf
  refine sY hf hs rfl rfl rfl (Y_assign rfl rfl) ?_; clear hf; intro a hf
  refine sY hf hs rfl rfl rfl (Y_assign rfl rfl) ?_; clear hf; intro a hf
  refine wpO_nil ?_
  refine wpL_seq ?_
  refine wpL_region ?_
  refine sY hf hs rfl rfl rfl (Y_move rfl rfl) ?_; clear hf; intro a hf
  obtain ⟨r1, hc2, hm⟩ := bind_some hm
  refine sCall hf rfl rfl rfl rfl (cap := []) rfl rfl en65 (spec_l01From_ok F p0_code A_p0_code_1 p0_code.length c_p0_code_1 rfl _ _ hc2 (h_p0_code_1.at hs)) ?_; clear hf
  rintro _ w ⟨b3, rfl, hs1⟩ a hf
  have hs : St [] W w [.blk b3 149 [.slice A_p0_code_1 p0_code.length c_p0_code_1, .int .i64 r1.1, .int .i64 r1.2]] := hs.join hs1
  clear hs1
  obtain ⟨r4, hc5, hm⟩ := bind_some hm
  refine sCall hf rfl rfl rfl rfl (cap := []) rfl rfl en69 (spec_l23DrawTimes_ok F b3 p0_code A_p0_code_1 p0_code.length c_p0_code_1 rfl r1.1 r1.2 _ _ hc5 (h_p0_code_1.pass hs [0]) (hs.sel [0] (by decide)).rebase) ?_; clear hf
  rintro _ w ⟨A6, n7, c8, A10, n11, c12, A14, n15, c16, rfl, hn9, hn13, hn17, hs1⟩ a hf
  have hs : St [] W w [.row A6 n7 c8 39 2 ((recs GWindow.cells) r4.1.1), .row A10 n11 c12 95 3 ((recs GBond.cells) r4.1.2.1), .row A14 n15 c16 2 1 (ints r4.1.2.2), .blk b3 149 [.slice A_p0_code_1 p0_code.length c_p0_code_1, .int .i64 r4.2.1, .int .i64 r4.2.2]] := St.mutTail (La := []) (Lb := [.blk b3 149 [.slice A_p0_code_1 p0_code.length c_p0_code_1, .int .i64 r1.1, .int .i64 r1.2]]) (hs.sel [0] (by decide)) hs1
  clear hs1
  refine sY hf hs rfl rfl rfl (Y_extract rfl rfl rfl) ?_; clear hf; intro a hf
  refine sY hf hs rfl rfl rfl (Y_extract rfl rfl rfl) ?_; clear hf; intro a hf
  refine sY hf hs rfl rfl rfl (Y_extract rfl rfl rfl) ?_; clear hf; intro a hf
  refine sY hf hs rfl rfl rfl (Y_assign rfl rfl) ?_; clear hf; intro a hf
  refine sY hf hs rfl rfl rfl (Y_assign rfl rfl) ?_; clear hf; intro a hf
  refine sY hf hs rfl rfl rfl (Y_assign rfl rfl) ?_; clear hf; intro a hf
  refine wpO_nil ?_
  obtain rfl := Option.some.inj hm
  refine wpL_ret (ret_tmp3 rfl hf rfl rfl rfl ?_)
  exact ⟨_, rfl, A6, n7, c8, A10, n11, c12, A14, n15, c16, rfl, hn9, hn13, hn17, hs.sel [0, 1, 2] (by decide)⟩

set_option maxRecDepth 100000 in
theorem impl_IsWindowSolution_c1_ok (F : Nat) (p0_b : GBond) (b_z0 : Nat) (z0 : List Int) (A_z0_1 : Option Addr) (n_z0_1 c_z0_1 : Nat) (hn_z0_1 : n_z0_1 = z0.length) (r : Bool) (W : World) (hm : impl_IsWindowSolution_c1 F p0_b z0 = some r) (h_z0_1 : Rd W A_z0_1 (ints z0)) (h_z0 : PB W b_z0 28 [.slice A_z0_1 n_z0_1 c_z0_1]) :
    Calls Try.prog 73 [.agg #[.int .i64 p0_b.From, .int .i64 p0_b.To, .int .i64 p0_b.Least], .pointer (some ⟨b_z0, 0, none⟩)].toArray W fun e w' => ∃ v, e = .returned v ∧ v = .bool r ∧ St [] W w' [] := by
  subst hn_z0_1
  unfold impl_IsWindowSolution_c1 at hm
  refine Calls.enter (N := 18) Try.func73 rfl rfl rfl (fun a hf => ?_)
  have hs := St.start W
  obtain ⟨w, hw_⟩ : ∃ w, w = W := ⟨W, rfl⟩
  clear hw_ w
  refine wpL_seq ?_
  refine wpL_region ?_
  refine sBox hf hs rfl rfl rfl rfl rfl (cs := [.int .i64 p0_b.From, .int .i64 p0_b.To, .int .i64 p0_b.Least]) rfl ?_; clear hf hs; intro a w b1 hs hf
  have hs : St [] W w [.blk b1 95 [.int .i64 p0_b.From, .int .i64 p0_b.To, .int .i64 p0_b.Least]] := hs
  refine sY hf hs rfl rfl rfl (Y_assign rfl rfl) ?_; clear hf; intro a hf
  refine wpO_nil ?_
  refine wpL_seq ?_
  refine wpL_draw (by kernel_rfl) (by kernel_rfl) hs ?_
  refine qY hf rfl rfl rfl (Y_load_pb rfl rfl h_z0 rfl ag28) ?_; clear hf; intro a hf
  refine qY hf rfl rfl rfl (Y_fieldAddr rfl rfl fo95_1) ?_; clear hf; intro a hf
  refine qY hf rfl rfl rfl (Y_load_blk rfl rfl (i := 0) rfl rfl ag2) ?_; clear hf; intro a hf
  obtain ⟨q2, hi3, hm⟩ := bind_some hm
  obtain ⟨hi3a, hi3b, hi3q⟩ := idx_some hi3
  refine qY hf rfl rfl rfl (Y_index rfl rfl rfl el28 ti2 (Rd.isAt (h_z0_1.at hs) (at1 (ints_at hi3q))) hi3a hi3b) ?_; clear hf; intro a hf
  refine qY hf rfl rfl rfl (Y_load_rd rfl rfl (fun w hs => h_z0_1.at hs) (at1 (ints_at hi3q)) ag2) ?_; clear hf; intro a hf
  refine qY hf rfl rfl rfl (Y_load_pb rfl rfl h_z0 rfl ag28) ?_; clear hf; intro a hf
  refine qY hf rfl rfl rfl (Y_fieldAddr rfl rfl fo95_0) ?_; clear hf; intro a hf
  refine qY hf rfl rfl rfl (Y_load_blk rfl rfl (i := 0) rfl rfl ag2) ?_; clear hf; intro a hf
  obtain ⟨q4, hi5, hm⟩ := bind_some hm
  obtain ⟨hi5a, hi5b, hi5q⟩ := idx_some hi5
  refine qY hf rfl rfl rfl (Y_index rfl rfl rfl el28 ti2 (Rd.isAt (h_z0_1.at hs) (at1 (ints_at hi5q))) hi5a hi5b) ?_; clear hf; intro a hf
  refine qY hf rfl rfl rfl (Y_load_rd rfl rfl (fun w hs => h_z0_1.at hs) (at1 (ints_at hi5q)) ag2) ?_; clear hf; intro a hf
  refine qY hf rfl rfl rfl (Y_fieldAddr rfl rfl fo95_2) ?_; clear hf; intro a hf
  refine qY hf rfl rfl rfl (Y_load_blk rfl rfl (i := 0) rfl rfl ag2) ?_; clear hf; intro a hf
  refine qY hf rfl rfl rfl (Y_add rfl rfl rfl) ?_; clear hf; intro a hf
  refine qY hf rfl rfl rfl (Y_lss rfl rfl rfl) ?_; clear hf; intro a hf
  refine qY hf rfl rfl rfl (Y_assign rfl rfl) ?_; clear hf; intro a hf
  refine qNil ?_; clear hs; intro w hs
  obtain rfl := Option.some.inj hm
  refine wpL_ret (ret_tmp rfl hf rfl ?_)
  exact ⟨_, rfl, rfl, hs.sel [] (by decide)⟩

set_option maxRecDepth 100000 in
theorem impl_IsWindowSolution_ok (F : Nat) (p0_windows : List GWindow) (A_p0_windows_1 : Option Addr) (n_p0_windows_1 c_p0_windows_1 : Nat) (hn_p0_windows_1 : n_p0_windows_1 = p0_windows.length) (p1_bonds : List GBond) (A_p1_bonds_1 : Option Addr) (n_p1_bonds_1 c_p1_bonds_1 : Nat) (hn_p1_bonds_1 : n_p1_bonds_1 = p1_bonds.length) (p2_x : List Int) (A_p2_x_1 : Option Addr) (n_p2_x_1 c_p2_x_1 : Nat) (hn_p2_x_1 : n_p2_x_1 = p2_x.length) (r : Bool) (W : World) (hm : impl_IsWindowSolution F p0_windows p1_bonds p2_x = some r) (h_p0_windows_1 : Rd W A_p0_windows_1 ((recs GWindow.cells) p0_windows)) (h_p1_bonds_1 : Rd W A_p1_bonds_1 ((recs GBond.cells) p1_bonds)) (h_p2_x_1 : Rd W A_p2_x_1 (ints p2_x)) :
    Calls Try.prog 18 [.slice A_p0_windows_1 n_p0_windows_1 c_p0_windows_1, .slice A_p1_bonds_1 n_p1_bonds_1 c_p1_bonds_1, .slice A_p2_x_1 n_p2_x_1 c_p2_x_1].toArray W fun e w' => ∃ v, e = .returned v ∧ v = .bool r ∧ St [] W w' [] := by
  subst hn_p0_windows_1
  subst hn_p1_bonds_1
  subst hn_p2_x_1
  unfold impl_IsWindowSolution at hm
  refine Calls.enter (N := 42) Try.func18 rfl rfl rfl (fun a hf => ?_)
  have hs := St.start W
  obtain ⟨w, hw_⟩ : ∃ w, w = W := ⟨W, rfl⟩
  clear hw_ w
  refine wpL_seq ?_
  refine wpL_region ?_
  refine sBox hf hs rfl rfl rfl rfl rfl (cs := [.slice A_p2_x_1 p2_x.length c_p2_x_1]) rfl ?_; clear hf hs; intro a w b1 hs hf
  have hs : St [] W w [.blk b1 28 [.slice A_p2_x_1 p2_x.length c_p2_x_1]] := hs
  refine sY hf hs rfl rfl rfl (Y_assign rfl rfl) ?_; clear hf; intro a hf
  refine wpO_nil ?_
  refine wpL_seq ?_
  refine wpL_seq ?_
  obtain ⟨r6, hj7, hm⟩ := bind_some hm
  refine wpL_cut (fun a w => ∃ b5 : Bool, b5 = r6 ∧ Fr a 42 [(0, .slice A_p0_windows_1 p0_windows.length c_p0_windows_1), (1, .slice A_p1_bonds_1 p1_bonds.length c_p1_bonds_1), (5, .pointer (some ⟨b1, 0, none⟩)), (19, .bool b5)] ∧ St [] W w [.blk b1 28 [.slice A_p2_x_1 p2_x.length c_p2_x_1]]) ?_ ?_
  · refine wpL_region ?_
    refine sY hf hs rfl rfl rfl (Y_move rfl rfl) ?_; clear hf; intro a hf
    refine sY hf hs rfl rfl rfl (Y_move rfl rfl) ?_; clear hf; intro a hf
    obtain ⟨r8, hc9, hj7⟩ := bind_some hj7
    refine sCall hf rfl rfl rfl rfl (cap := []) rfl rfl en70 (impl_IsTask_ok F p0_windows A_p0_windows_1 p0_windows.length c_p0_windows_1 rfl p1_bonds A_p1_bonds_1 p1_bonds.length c_p1_bonds_1 rfl _ _ hc9 (h_p0_windows_1.at hs) (h_p1_bonds_1.at hs)) ?_; clear hf
    rintro _ w ⟨rfl, hs1⟩ a hf
    have hs : St [] W w [.blk b1 28 [.slice A_p2_x_1 p2_x.length c_p2_x_1]] := hs.ext hs1.below
    clear hs1
    refine sY hf hs rfl rfl rfl (Y_not rfl rfl) ?_; clear hf; intro a hf
    refine sY hf hs rfl rfl rfl (Y_move rfl rfl) ?_; clear hf; intro a hf
    refine bsplit (!r8) (fun hb10 => ?_) (fun hb10 => ?_)
    · have hj7 := bif_t hj7 hb10
      refine sNo hf rfl rfl rfl (congrArg (fun b => some (Value.bool b)) hb10) rfl rfl rfl ?_; clear hf; intro a hf
      refine sNo hf rfl rfl rfl (congrArg (fun b => some (Value.bool b)) hb10) rfl rfl rfl ?_; clear hf; intro a hf
      refine sNo hf rfl rfl rfl (congrArg (fun b => some (Value.bool b)) hb10) rfl rfl rfl ?_; clear hf; intro a hf
      refine sNo hf rfl rfl rfl (congrArg (fun b => some (Value.bool b)) hb10) rfl rfl rfl ?_; clear hf; intro a hf
      refine sNo hf rfl rfl rfl (congrArg (fun b => some (Value.bool b)) hb10) rfl rfl rfl ?_; clear hf; intro a hf
      refine sY hf hs rfl rfl rfl (Y_pickT rfl (congrArg (fun b => some (Value.bool b)) hb10) rfl) ?_; clear hf; intro a hf
      refine wpO_nil ?_
      refine wpL_nil (then_normal ?_)
      exact ⟨true, Option.some.inj hj7, (FrD.pick (FrD.pick (FrD.pick (FrD.pick hf.none hf rfl) hf rfl) hf rfl) hf rfl), hs⟩
    · have hj7 := bif_f hj7 hb10
      refine sYg hf hs rfl rfl rfl (congrArg (fun b => some (Value.bool b)) hb10) rfl rfl rfl (Y_load_blk rfl rfl (i := 0) rfl rfl ag28) ?_; clear hf; intro a hf
      refine sYg hf hs rfl rfl rfl (congrArg (fun b => some (Value.bool b)) hb10) rfl rfl rfl (Y_lenH rfl rfl el28 rfl) ?_; clear hf; intro a hf
      refine sYg hf hs rfl rfl rfl (congrArg (fun b => some (Value.bool b)) hb10) rfl rfl rfl (Y_move rfl rfl) ?_; clear hf; intro a hf
      refine sYg hf hs rfl rfl rfl (congrArg (fun b => some (Value.bool b)) hb10) rfl rfl rfl (Y_lenH rfl rfl el24 rfl) ?_; clear hf; intro a hf
      refine sYg hf hs rfl rfl rfl (congrArg (fun b => some (Value.bool b)) hb10) rfl rfl rfl (Y_neq rfl rfl rfl) ?_; clear hf; intro a hf
      refine sY hf hs rfl rfl rfl (Y_pickF rfl (congrArg (fun b => some (Value.bool b)) hb10) rfl) ?_; clear hf; intro a hf
      refine wpO_nil ?_
      refine wpL_nil (then_normal ?_)
      exact ⟨((p2_x.length : Int) != (p0_windows.length : Int)), Option.some.inj hj7, (FrD.pick (FrD.pick (FrD.pick (FrD.pick hf.none hf rfl) hf rfl) hf rfl) hf rfl), hs⟩
  · rintro a w ⟨b5, hr_, hf, hs⟩
    subst hr_
    try dsimp only at hm
    refine wpL_cond hf rfl (fun hb11 => ?_) (fun hb11 => ?_)
    · have hm := bif_t hm hb11
      refine wpL_seq ?_
      refine wpL_region ?_
      refine sY hf hs rfl rfl rfl (Y_assign rfl rfl) ?_; clear hf; intro a hf
      refine wpO_nil ?_
      obtain rfl := Option.some.inj hm
      refine wpL_ret (ret_tmp rfl hf rfl ?_)
      exact ⟨_, rfl, rfl, hs.sel [] (by decide)⟩
    · have hm := bif_f hm hb11
      refine wpL_skip ?_
      refine wpL_seq ?_
      refine wpL_seq ?_
      refine wpL_region ?_
      refine sY hf hs rfl rfl rfl (Y_move rfl rfl) ?_; clear hf; intro a hf
      refine sY hf hs rfl rfl rfl (Y_lenH rfl rfl el24 rfl) ?_; clear hf; intro a hf
      refine sY hf hs rfl rfl rfl (Y_move rfl rfl) ?_; clear hf; intro a hf
      refine wpO_nil ?_
      obtain ⟨r41, hl42, hm⟩ := bind_some hm
      refine wpL_block (fun a w => Sum.inr () = r41 ∧ Fr a 42 [(1, .slice A_p1_bonds_1 p1_bonds.length c_p1_bonds_1), (5, .pointer (some ⟨b1, 0, none⟩))] ∧ St [] W w [.blk b1 28 [.slice A_p2_x_1 p2_x.length c_p2_x_1]]) ?_ ?_
      · refine wpL_loop (fun n a w => ∃ x31 : Int, impl_IsWindowSolution_L1 F p0_windows p2_x n x31 = some r41 ∧ Fr a 42 [(1, .slice A_p1_bonds_1 p1_bonds.length c_p1_bonds_1), (5, .pointer (some ⟨b1, 0, none⟩)), (20, .slice A_p0_windows_1 p0_windows.length c_p0_windows_1), (21, .int .i64 (p0_windows.length : Int)), (22, .int .i64 x31)] ∧ St [] W w [.blk b1 28 [.slice A_p2_x_1 p2_x.length c_p2_x_1]]) F ?_ ?_ ?_
        · exact ⟨0, hl42, (FrD.pick (FrD.pick (FrD.pick (FrD.pick (FrD.pick hf.none hf rfl) hf rfl) hf rfl) hf rfl) hf rfl), hs⟩
        · rintro a w ⟨x31, h0_, -, -⟩; simp [impl_IsWindowSolution_L1] at h0_
        · rintro n44 a w ⟨x31, hm43, hf, hs⟩
          rw [impl_IsWindowSolution_L1] at hm43
          refine wpL_seq ?_
          refine wpL_region ?_
          refine sY hf hs rfl rfl rfl (Y_lss rfl rfl rfl) ?_; clear hf; intro a hf
          refine wpO_nil ?_
          refine wpL_seq ?_
          refine wpL_cond hf rfl (fun hb45 => ?_) (fun hb45 => ?_)
          · have hm43 := bif_t hm43 hb45
            refine wpL_skip ?_
            refine wpL_seq ?_
            refine wpL_block0 ?_
            refine wpL_seq ?_
            refine wpL_region ?_
            refine sY hf hs rfl rfl rfl (Y_move rfl rfl) ?_; clear hf; intro a hf
            obtain ⟨q46, hi47, hm43⟩ := bind_some hm43
            obtain ⟨hi47a, hi47b, hi47q⟩ := idx_some hi47
            refine sY hf hs rfl rfl rfl (Y_index rfl rfl rfl el24 ti39 (Rd.isAt (h_p0_windows_1.at hs) (recs_at (s := 2) GWindow.len hi47q (j := 0) rfl)) hi47a hi47b) ?_; clear hf; intro a hf
            refine sY hf hs rfl rfl rfl (Y_load_rdS rfl rfl (us := [.int .i64 q46.Low, .int .i64 q46.High]) (fun w hs => h_p0_windows_1.at hs) (fun j u hj => recs_at (s := 2) GWindow.len hi47q hj) (Nat.succ_pos _) ag39 ti39 rfl) ?_; clear hf; intro a hf
            refine sAlloc hf hs rfl rfl rfl rfl ti39 ?_; clear hf hs; intro a w b48 hs hf
            have hs : St [] W w [.blk b1 28 [.slice A_p2_x_1 p2_x.length c_p2_x_1], .blk b48 39 [.int .i64 0, .int .i64 0]] := hs
            refine sY hf hs rfl rfl rfl (Y_assign rfl rfl) ?_; clear hf; intro a hf
            refine sStore (i := 1) (us := [.int .i64 q46.Low, .int .i64 q46.High]) hf hs rfl rfl rfl rfl rfl rfl ti39 rfl rfl rfl (Nat.le_of_ble_eq_true rfl) rfl ?_; clear hs; intro w hs
            have hs : St [] W w [.blk b1 28 [.slice A_p2_x_1 p2_x.length c_p2_x_1], .blk b48 39 [.int .i64 q46.Low, .int .i64 q46.High]] := hs
            refine wpO_nil ?_
            refine wpL_seq ?_
            refine wpL_draw (by kernel_rfl) (by kernel_rfl) hs ?_
            refine qY hf rfl rfl rfl (Y_load_blk rfl rfl (i := 0) rfl rfl ag28) ?_; clear hf; intro a hf
            refine qY hf rfl rfl rfl (Y_move rfl rfl) ?_; clear hf; intro a hf
            obtain ⟨q49, hi50, hm43⟩ := bind_some hm43
            obtain ⟨hi50a, hi50b, hi50q⟩ := idx_some hi50
            refine qY hf rfl rfl rfl (Y_index rfl rfl rfl el28 ti2 (Rd.isAt (h_p2_x_1.at hs) (at1 (ints_at hi50q))) hi50a hi50b) ?_; clear hf; intro a hf
            refine qY hf rfl rfl rfl (Y_load_rd rfl rfl (fun w hs => h_p2_x_1.at hs) (at1 (ints_at hi50q)) ag2) ?_; clear hf; intro a hf
            refine qY hf rfl rfl rfl (Y_fieldAddr rfl rfl fo39_0) ?_; clear hf; intro a hf
            refine qY hf rfl rfl rfl (Y_load_blk rfl rfl (i := 1) rfl rfl ag2) ?_; clear hf; intro a hf
            refine qY hf rfl rfl rfl (Y_fieldAddr rfl rfl fo39_1) ?_; clear hf; intro a hf
            refine qY hf rfl rfl rfl (Y_load_blk rfl rfl (i := 1) rfl rfl ag2) ?_; clear hf; intro a hf
            obtain ⟨r51, hc52, hm43⟩ := bind_some hm43
            refine qCall hf rfl rfl rfl rfl (cap := []) rfl rfl en71 (v := .bool r51) (fun w hs => Calls.scal (impl_within_ok F q49 q46.Low q46.High _ _ hc52)) ?_; clear hf; intro a hf
            refine qY hf rfl rfl rfl (Y_not rfl rfl) ?_; clear hf; intro a hf
            refine qNil ?_; clear hs; intro w hs
            refine wpL_cond hf rfl (fun hb53 => ?_) (fun hb53 => ?_)
            · have hm43 := bif_t hm43 hb53
              refine wpL_seq ?_
              refine wpL_region ?_
              refine sY hf hs rfl rfl rfl (Y_assign rfl rfl) ?_; clear hf; intro a hf
              refine wpO_nil ?_
              obtain rfl := Option.some.inj hm43
              try dsimp only at hm
              obtain rfl := Option.some.inj hm
              refine wpL_ret (Qb_ret (Ql_ret (Qb_ret (ret_tmp rfl hf rfl ?_))))
              exact ⟨_, rfl, rfl, hs.sel [] (by decide)⟩
            · have hm43 := bif_f hm43 hb53
              refine wpL_skip ?_
              refine wpL_nil (Qb_normal ?_)
              refine wpL_region ?_
              refine sY hf hs rfl rfl rfl (Y_add rfl rfl rfl) ?_; clear hf; intro a hf
              refine sY hf hs rfl rfl rfl (Y_move rfl rfl) ?_; clear hf; intro a hf
              refine wpO_nil ?_
              refine wpL_nil (Ql_normal ?_)
              exact ⟨(IntKind.i64.wrap (x31 + 1)), hm43, (FrD.pick (FrD.pick (FrD.pick (FrD.pick (FrD.pick hf.none hf rfl) hf rfl) hf rfl) hf rfl) hf rfl), hs.sel [0] (by decide)⟩
          · have hm43 := bif_f hm43 hb45
            refine wpL_exit (Ql_exit (Qb_exit ?_))
            exact ⟨Option.some.inj hm43, (FrD.pick (FrD.pick hf.none hf rfl) hf rfl), hs⟩
      · rintro a w ⟨hr_, hf, hs⟩
        subst hr_
        try dsimp only at hm
        refine wpL_seq ?_
        refine wpL_region ?_
        refine sY hf hs rfl rfl rfl (Y_move rfl rfl) ?_; clear hf; intro a hf
        refine sY hf hs rfl rfl rfl (Y_makeFunc (us := []) (vs := [.pointer (some ⟨b1, 0, none⟩)]) rfl rfl rfl) ?_; clear hf; intro a hf
        obtain ⟨r54, hc55, hm⟩ := bind_some hm
        refine sCall hf rfl rfl rfl rfl (cap := []) rfl rfl en72 (slices_ContainsFunc_Bond_ok F p1_bonds A_p1_bonds_1 p1_bonds.length c_p1_bonds_1 rfl (fun x0 => impl_IsWindowSolution_c1 F x0 p2_x) 73 ([.pointer (some ⟨b1, 0, none⟩)]) _ _ hc55 (h_p1_bonds_1.at hs) (fun x0 r w' hm_ hb => impl_IsWindowSolution_c1_ok F x0 b1 p2_x A_p2_x_1 p2_x.length c_p2_x_1 rfl r w' hm_ ((h_p2_x_1.at hs).below hb (Nat.le_refl _)) ((hs.pb (i := 0) rfl).below hb (Nat.le_refl _))) en73) ?_; clear hf
        rintro _ w ⟨rfl, hs1⟩ a hf
        have hs : St [] W w [.blk b1 28 [.slice A_p2_x_1 p2_x.length c_p2_x_1]] := hs.ext hs1.below
        clear hs1
        refine sY hf hs rfl rfl rfl (Y_not rfl rfl) ?_; clear hf; intro a hf
        refine sY hf hs rfl rfl rfl (Y_assign rfl rfl) ?_; clear hf; intro a hf
        refine wpO_nil ?_
        obtain rfl := Option.some.inj hm
        refine wpL_ret (ret_tmp rfl hf rfl ?_)
        exact ⟨_, rfl, rfl, hs.sel [] (by decide)⟩

set_option maxRecDepth 100000 in
theorem impl_allWithin_ok (F : Nat) (p0_list : List Int) (A_p0_list_1 : Option Addr) (n_p0_list_1 c_p0_list_1 : Nat) (hn_p0_list_1 : n_p0_list_1 = p0_list.length) (p1_low : Int) (p2_high : Int) (r : Bool) (W : World) (hm : impl_allWithin F p0_list p1_low p2_high = some r) (h_p0_list_1 : Rd W A_p0_list_1 (ints p0_list)) :
    Calls Try.prog 74 [.slice A_p0_list_1 n_p0_list_1 c_p0_list_1, .int .i64 p1_low, .int .i64 p2_high].toArray W fun e w' => ∃ v, e = .returned v ∧ v = .bool r ∧ St [] W w' [] := by
  subst hn_p0_list_1
  unfold impl_allWithin at hm
  refine Calls.enter (N := 21) Try.func74 rfl rfl rfl (fun a hf => ?_)
  have hs := St.start W
  obtain ⟨w, hw_⟩ : ∃ w, w = W := ⟨W, rfl⟩
  clear hw_ w
  refine wpL_seq ?_
  refine wpL_region ?_
  refine sY hf hs rfl rfl rfl (Y_assign rfl rfl) ?_; clear hf; intro a hf
  refine wpO_nil ?_
  refine wpL_seq ?_
  refine wpL_seq ?_
  refine wpL_region ?_
  refine sY hf hs rfl rfl rfl (Y_move rfl rfl) ?_; clear hf; intro a hf
  refine sY hf hs rfl rfl rfl (Y_lenH rfl rfl el28 rfl) ?_; clear hf; intro a hf
  refine sY hf hs rfl rfl rfl (Y_move rfl rfl) ?_; clear hf; intro a hf
  refine wpO_nil ?_
  obtain ⟨r21, hl22, hm⟩ := bind_some hm
  refine wpL_block (fun a w => Sum.inr () = r21 ∧ Fr a 21 [] ∧ St [] W w []) ?_ ?_
  · refine wpL_loop (fun n a w => ∃ x14 : Int, impl_allWithin_L1 F p0_list p1_low p2_high n x14 = some r21 ∧ Fr a 21 [(1, .int .i64 p1_low), (2, .int .i64 p2_high), (9, .slice A_p0_list_1 p0_list.length c_p0_list_1), (10, .int .i64 (p0_list.length : Int)), (11, .int .i64 x14)] ∧ St [] W w []) F ?_ ?_ ?_
    · exact ⟨0, hl22, (FrD.pick (FrD.pick (FrD.pick (FrD.pick (FrD.pick hf.none hf rfl) hf rfl) hf rfl) hf rfl) hf rfl), hs⟩
    · rintro a w ⟨x14, h0_, -, -⟩; simp [impl_allWithin_L1] at h0_
    · rintro n24 a w ⟨x14, hm23, hf, hs⟩
      rw [impl_allWithin_L1] at hm23
      refine wpL_seq ?_
      refine wpL_region ?_
      refine sY hf hs rfl rfl rfl (Y_lss rfl rfl rfl) ?_; clear hf; intro a hf
      refine wpO_nil ?_
      refine wpL_seq ?_
      refine wpL_cond hf rfl (fun hb25 => ?_) (fun hb25 => ?_)
      · have hm23 := bif_t hm23 hb25
        refine wpL_skip ?_
        refine wpL_seq ?_
        refine wpL_block0 ?_
        refine wpL_seq ?_
        refine wpL_region ?_
        obtain ⟨q26, hi27, hm23⟩ := bind_some hm23
        obtain ⟨hi27a, hi27b, hi27q⟩ := idx_some hi27
        refine sY hf hs rfl rfl rfl (Y_index rfl rfl rfl el28 ti2 (Rd.isAt (h_p0_list_1.at hs) (at1 (ints_at hi27q))) hi27a hi27b) ?_; clear hf; intro a hf
        refine sY hf hs rfl rfl rfl (Y_load_rd rfl rfl (fun w hs => h_p0_list_1.at hs) (at1 (ints_at hi27q)) ag2) ?_; clear hf; intro a hf
        refine sY hf hs rfl rfl rfl (Y_assign rfl rfl) ?_; clear hf; intro a hf
        refine wpO_nil ?_
        refine wpL_seq ?_
        refine wpL_region ?_
        refine sY hf hs rfl rfl rfl (Y_move rfl rfl) ?_; clear hf; intro a hf
        refine sY hf hs rfl rfl rfl (Y_move rfl rfl) ?_; clear hf; intro a hf
        refine sY hf hs rfl rfl rfl (Y_move rfl rfl) ?_; clear hf; intro a hf
        obtain ⟨r28, hc29, hm23⟩ := bind_some hm23
        refine sCall hf rfl rfl rfl rfl (cap := []) rfl rfl en71 (impl_within_ok F q26 p1_low p2_high _ _ hc29) ?_; clear hf
        rintro _ w ⟨rfl, hs1⟩ a hf
        have hs : St [] W w [] := hs.ext hs1.below
        clear hs1
        refine sY hf hs rfl rfl rfl (Y_not rfl rfl) ?_; clear hf; intro a hf
        refine wpO_nil ?_
        refine wpL_cond hf rfl (fun hb30 => ?_) (fun hb30 => ?_)
        · have hm23 := bif_t hm23 hb30
          refine wpL_seq ?_
          refine wpL_region ?_
          refine sY hf hs rfl rfl rfl (Y_assign rfl rfl) ?_; clear hf; intro a hf
          refine wpO_nil ?_
          obtain rfl := Option.some.inj hm23
          try dsimp only at hm
          obtain rfl := Option.some.inj hm
          refine wpL_ret (Qb_ret (Ql_ret (Qb_ret (ret_tmp rfl hf rfl ?_))))
          exact ⟨_, rfl, rfl, hs⟩
        · have hm23 := bif_f hm23 hb30
          refine wpL_skip ?_
          refine wpL_nil (Qb_normal ?_)
          refine wpL_region ?_
          refine sY hf hs rfl rfl rfl (Y_add rfl rfl rfl) ?_; clear hf; intro a hf
          refine sY hf hs rfl rfl rfl (Y_move rfl rfl) ?_; clear hf; intro a hf
          refine wpO_nil ?_
          refine wpL_nil (Ql_normal ?_)
          exact ⟨(IntKind.i64.wrap (x14 + 1)), hm23, (FrD.pick (FrD.pick (FrD.pick (FrD.pick (FrD.pick hf.none hf rfl) hf rfl) hf rfl) hf rfl) hf rfl), hs⟩
      · have hm23 := bif_f hm23 hb25
        refine wpL_exit (Ql_exit (Qb_exit ?_))
        exact ⟨Option.some.inj hm23, hf.none, hs⟩
  · rintro a w ⟨hr_, hf, hs⟩
    subst hr_
    try dsimp only at hm
    refine wpL_seq ?_
    refine wpL_region ?_
    refine sY hf hs rfl rfl rfl (Y_assign rfl rfl) ?_; clear hf; intro a hf
    refine wpO_nil ?_
    obtain rfl := Option.some.inj hm
    refine wpL_ret (ret_tmp rfl hf rfl ?_)
    exact ⟨_, rfl, rfl, hs⟩

set_option maxRecDepth 100000 in
theorem impl_SlackOfBonds_ok (F : Nat) (p0_windows : List GWindow) (A_p0_windows_1 : Option Addr) (n_p0_windows_1 c_p0_windows_1 : Nat) (hn_p0_windows_1 : n_p0_windows_1 = p0_windows.length) (p1_bonds : List GBond) (A_p1_bonds_1 : Option Addr) (n_p1_bonds_1 c_p1_bonds_1 : Nat) (hn_p1_bonds_1 : n_p1_bonds_1 = p1_bonds.length) (p2_x : List Int) (A_p2_x_1 : Option Addr) (n_p2_x_1 c_p2_x_1 : Nat) (hn_p2_x_1 : n_p2_x_1 = p2_x.length) (r : List Int × Int) (W : World) (hm : impl_SlackOfBonds F p0_windows p1_bonds p2_x = some r) (h_p0_windows_1 : Rd W A_p0_windows_1 ((recs GWindow.cells) p0_windows)) (h_p1_bonds_1 : Rd W A_p1_bonds_1 ((recs GBond.cells) p1_bonds)) (h_p2_x_1 : Rd W A_p2_x_1 (ints p2_x)) :
    Calls Try.prog 19 [.slice A_p0_windows_1 n_p0_windows_1 c_p0_windows_1, .slice A_p1_bonds_1 n_p1_bonds_1 c_p1_bonds_1, .slice A_p2_x_1 n_p2_x_1 c_p2_x_1].toArray W fun e w' => ∃ v, e = .returned v ∧ ∃ A79, ∃ n80, ∃ c81, v = .tuple #[.slice A79 n80 c81, .int .i64 r.2] ∧ n80 = r.1.length ∧ St [] W w' [.row A79 n80 c81 2 1 (ints r.1)] := by
  subst hn_p0_windows_1
  subst hn_p1_bonds_1
  subst hn_p2_x_1
  unfold impl_SlackOfBonds at hm
  refine Calls.enter (N := 54) Try.func19 rfl rfl rfl (fun a hf => ?_)
  have hs := St.start W
  obtain ⟨w, hw_⟩ : ∃ w, w = W := ⟨W, rfl⟩
  clear hw_ w
  refine wpL_seq ?_
  refine wpL_region ?_
  refine sY hf hs rfl rfl rfl (Y_assign rfl rfl) ?_; clear hf; intro a hf
  refine sY hf hs rfl rfl rfl (Y_assign rfl rfl) ?_; clear hf; intro a hf
  refine wpO_nil ?_
  refine wpL_seq ?_
  refine wpL_seq ?_
  refine wpL_region ?_
  refine sY hf hs rfl rfl rfl (Y_move rfl rfl) ?_; clear hf; intro a hf
  refine sY hf hs rfl rfl rfl (Y_move rfl rfl) ?_; clear hf; intro a hf
  obtain ⟨r1, hc2, hm⟩ := bind_some hm
  refine sCall hf rfl rfl rfl rfl (cap := []) rfl rfl en70 (impl_IsTask_ok F p0_windows A_p0_windows_1 p0_windows.length c_p0_windows_1 rfl p1_bonds A_p1_bonds_1 p1_bonds.length c_p1_bonds_1 rfl _ _ hc2 (h_p0_windows_1.at hs) (h_p1_bonds_1.at hs)) ?_; clear hf
  rintro _ w ⟨rfl, hs1⟩ a hf
  have hs : St [] W w [] := hs.ext hs1.below
  clear hs1
  refine sY hf hs rfl rfl rfl (Y_not rfl rfl) ?_; clear hf; intro a hf
  refine wpO_nil ?_
  refine wpL_cond hf rfl (fun hb3 => ?_) (fun hb3 => ?_)
  · have hm := bif_t hm hb3
    refine wpL_seq ?_
    refine wpL_region ?_
    refine sY hf hs rfl rfl rfl (Y_assign rfl rfl) ?_; clear hf; intro a hf
    refine sY hf hs rfl rfl rfl (Y_assign rfl rfl) ?_; clear hf; intro a hf
    refine wpO_nil ?_
    have hs : St [] W _ [.row none 0 0 2 1 (ints ([] : List Int))] := hs.addNil 2 1
    obtain rfl := Option.some.inj hm
    refine wpL_ret (ret_tmp2 rfl hf rfl rfl ?_)
    exact ⟨_, rfl, none, 0, 0, rfl, rfl, hs⟩
  · have hm := bif_f hm hb3
    refine wpL_skip ?_
    refine wpL_seq ?_
    refine wpL_seq ?_
    obtain ⟨r9, hj10, hm⟩ := bind_some hm
    refine wpL_cut (fun a w => ∃ b8 : Bool, b8 = r9 ∧ Fr a 54 [(1, .slice A_p1_bonds_1 p1_bonds.length c_p1_bonds_1), (2, .slice A_p2_x_1 p2_x.length c_p2_x_1), (24, .bool b8)] ∧ St [] W w []) ?_ ?_
    · refine wpL_region ?_
      refine sY hf hs rfl rfl rfl (Y_move rfl rfl) ?_; clear hf; intro a hf
      refine sY hf hs rfl rfl rfl (Y_lenH rfl rfl el28 rfl) ?_; clear hf; intro a hf
      refine sY hf hs rfl rfl rfl (Y_move rfl rfl) ?_; clear hf; intro a hf
      refine sY hf hs rfl rfl rfl (Y_lenH rfl rfl el24 rfl) ?_; clear hf; intro a hf
      refine sY hf hs rfl rfl rfl (Y_neq rfl rfl rfl) ?_; clear hf; intro a hf
      refine sY hf hs rfl rfl rfl (Y_move rfl rfl) ?_; clear hf; intro a hf
      refine bsplit ((p2_x.length : Int) != (p0_windows.length : Int)) (fun hb11 => ?_) (fun hb11 => ?_)
      · have hj10 := bif_t hj10 hb11
        refine sNo hf rfl rfl rfl (congrArg (fun b => some (Value.bool b)) hb11) rfl rfl rfl ?_; clear hf; intro a hf
        refine sNo hf rfl rfl rfl (congrArg (fun b => some (Value.bool b)) hb11) rfl rfl rfl ?_; clear hf; intro a hf
        refine sNo hf rfl rfl rfl (congrArg (fun b => some (Value.bool b)) hb11) rfl rfl rfl ?_; clear hf; intro a hf
        refine sY hf hs rfl rfl rfl (Y_pickT rfl (congrArg (fun b => some (Value.bool b)) hb11) rfl) ?_; clear hf; intro a hf
        refine wpO_nil ?_
        refine wpL_nil (then_normal ?_)
        exact ⟨true, Option.some.inj hj10, (FrD.pick (FrD.pick (FrD.pick hf.none hf rfl) hf rfl) hf rfl), hs⟩
      · have hj10 := bif_f hj10 hb11
        refine sYg hf hs rfl rfl rfl (congrArg (fun b => some (Value.bool b)) hb11) rfl rfl rfl (Y_move rfl rfl) ?_; clear hf; intro a hf
        obtain ⟨r12, hc13, hj10⟩ := bind_some hj10
        refine sCallg hf rfl rfl rfl (congrArg (fun b => some (Value.bool b)) hb11) rfl rfl rfl rfl (cap := []) rfl rfl en74 (impl_allWithin_ok F p2_x A_p2_x_1 p2_x.length c_p2_x_1 rfl 0 1000000 _ _ hc13 (h_p2_x_1.at hs)) ?_; clear hf
        rintro _ w ⟨rfl, hs1⟩ a hf
        have hs : St [] W w [] := hs.ext hs1.below
        clear hs1
        refine sYg hf hs rfl rfl rfl (congrArg (fun b => some (Value.bool b)) hb11) rfl rfl rfl (Y_not rfl rfl) ?_; clear hf; intro a hf
        refine sY hf hs rfl rfl rfl (Y_pickF rfl (congrArg (fun b => some (Value.bool b)) hb11) rfl) ?_; clear hf; intro a hf
        refine wpO_nil ?_
        refine wpL_nil (then_normal ?_)
        exact ⟨(!r12), Option.some.inj hj10, (FrD.pick (FrD.pick (FrD.pick hf.none hf rfl) hf rfl) hf rfl), hs⟩
    · rintro a w ⟨b8, hr_, hf, hs⟩
      subst hr_
      try dsimp only at hm
      refine wpL_cond hf rfl (fun hb14 => ?_) (fun hb14 => ?_)
      · have hm := bif_t hm hb14
        refine wpL_seq ?_
        refine wpL_region ?_
        refine sY hf hs rfl rfl rfl (Y_assign rfl rfl) ?_; clear hf; intro a hf
        refine sY hf hs rfl rfl rfl (Y_assign rfl rfl) ?_; clear hf; intro a hf
        refine wpO_nil ?_
        have hs : St [] W _ [.row none 0 0 2 1 (ints ([] : List Int))] := hs.addNil 2 1
        obtain rfl := Option.some.inj hm
        refine wpL_ret (ret_tmp2 rfl hf rfl rfl ?_)
        exact ⟨_, rfl, none, 0, 0, rfl, rfl, hs⟩
      · have hm := bif_f hm hb14
        refine wpL_skip ?_
        refine wpL_seq ?_
        refine wpL_region ?_
        refine sY hf hs rfl rfl rfl (Y_move rfl rfl) ?_; clear hf; intro a hf
        refine sY hf hs rfl rfl rfl (Y_lenH rfl rfl el25 rfl) ?_; clear hf; intro a hf
        obtain ⟨xs18, hk17, hm⟩ := bind_some hm
        refine sMakeL (enc := ints) hf hs rfl rfl rfl rfl rfl hk17 el28 ti2 rfl ints_made ?_; clear hf hs; intro a w A16 hs hf
        have hs : St [] W w [.row A16 xs18.length xs18.length 2 1 (ints xs18)] := hs
        refine sY hf hs rfl rfl rfl (Y_assign rfl rfl) ?_; clear hf; intro a hf
        refine wpO_nil ?_
        refine wpL_seq ?_
        refine wpL_seq ?_
        refine wpL_region ?_
        refine sY hf hs rfl rfl rfl (Y_move rfl rfl) ?_; clear hf; intro a hf
        refine sY hf hs rfl rfl rfl (Y_lenH rfl rfl el25 rfl) ?_; clear hf; intro a hf
        refine sY hf hs rfl rfl rfl (Y_move rfl rfl) ?_; clear hf; intro a hf
        refine wpO_nil ?_
        obtain ⟨r63, hl64, hm⟩ := bind_some hm
        refine wpL_block (fun a w => ∃ xs61 : List Int, xs61 = r63 ∧ xs18.length = xs61.length ∧ Fr a 54 [(8, .slice A16 xs18.length xs18.length)] ∧ St [] W w [.row A16 xs18.length xs18.length 2 1 (ints xs61)]) ?_ ?_
        · refine wpL_loop (fun n a w => ∃ xs46 : List Int, ∃ x48 : Int, impl_SlackOfBonds_L1 F p1_bonds p2_x n xs46 x48 = some r63 ∧ xs18.length = xs46.length ∧ Fr a 54 [(2, .slice A_p2_x_1 p2_x.length c_p2_x_1), (8, .slice A16 xs18.length xs18.length), (28, .slice A_p1_bonds_1 p1_bonds.length c_p1_bonds_1), (29, .int .i64 (p1_bonds.length : Int)), (30, .int .i64 x48)] ∧ St [] W w [.row A16 xs18.length xs18.length 2 1 (ints xs46)]) F ?_ ?_ ?_
          · exact ⟨xs18, 0, hl64, rfl, (FrD.pick (FrD.pick (FrD.pick (FrD.pick (FrD.pick hf.none hf rfl) hf rfl) hf rfl) hf rfl) hf rfl), hs⟩
          · rintro a w ⟨xs46, x48, h0_, -, -, -⟩; simp [impl_SlackOfBonds_L1] at h0_
          · rintro n66 a w ⟨xs46, x48, hm65, hn47, hf, hs⟩
            rw [impl_SlackOfBonds_L1] at hm65
            refine wpL_seq ?_
            refine wpL_region ?_
            refine sY hf hs rfl rfl rfl (Y_lss rfl rfl rfl) ?_; clear hf; intro a hf
            refine wpO_nil ?_
            refine wpL_seq ?_
            refine wpL_cond hf rfl (fun hb67 => ?_) (fun hb67 => ?_)
            · have hm65 := bif_t hm65 hb67
              refine wpL_skip ?_
              refine wpL_seq ?_
              refine wpL_block0 ?_
              refine wpL_seq ?_
              refine wpL_region ?_
              refine sY hf hs rfl rfl rfl (Y_move rfl rfl) ?_; clear hf; intro a hf
              obtain ⟨q68, hi69, hm65⟩ := bind_some hm65
              obtain ⟨hi69a, hi69b, hi69q⟩ := idx_some hi69
              refine sY hf hs rfl rfl rfl (Y_index rfl rfl rfl el25 ti95 (Rd.isAt (h_p1_bonds_1.at hs) (recs_at (s := 3) GBond.len hi69q (j := 0) rfl)) hi69a hi69b) ?_; clear hf; intro a hf
              refine sY hf hs rfl rfl rfl (Y_load_rdS rfl rfl (us := [.int .i64 q68.From, .int .i64 q68.To, .int .i64 q68.Least]) (fun w hs => h_p1_bonds_1.at hs) (fun j u hj => recs_at (s := 3) GBond.len hi69q hj) (Nat.succ_pos _) ag95 ti95 rfl) ?_; clear hf; intro a hf
              refine sAlloc hf hs rfl rfl rfl rfl ti95 ?_; clear hf hs; intro a w b70 hs hf
              have hs : St [] W w [.row A16 xs18.length xs18.length 2 1 (ints xs46), .blk b70 95 [.int .i64 0, .int .i64 0, .int .i64 0]] := hs
              refine sY hf hs rfl rfl rfl (Y_assign rfl rfl) ?_; clear hf; intro a hf
              refine sStore (i := 1) (us := [.int .i64 q68.From, .int .i64 q68.To, .int .i64 q68.Least]) hf hs rfl rfl rfl rfl rfl rfl ti95 rfl rfl rfl (Nat.le_of_ble_eq_true rfl) rfl ?_; clear hs; intro w hs
              have hs : St [] W w [.row A16 xs18.length xs18.length 2 1 (ints xs46), .blk b70 95 [.int .i64 q68.From, .int .i64 q68.To, .int .i64 q68.Least]] := hs
              refine wpO_nil ?_
              refine wpL_drawM [.row A16 xs18.length xs18.length 2 1 (ints xs46), .blk b70 95 [.int .i64 q68.From, .int .i64 q68.To, .int .i64 q68.Least]] [17] (by kernel_rfl) hs ?_; clear hs; intro w hs
              have hs0 : St [] W w [.row A16 xs18.length xs18.length 2 1 (ints xs46), .blk b70 95 [.int .i64 q68.From, .int .i64 q68.To, .int .i64 q68.Least]] := hs
              refine mYp (i := 0) rfl (by kernel_rfl) (by kernel_rfl) hf rfl rfl rfl (fun _ => Y_move rfl rfl) ?_; clear hf; intro a hf
              refine mYp (i := 1) rfl (by kernel_rfl) (by kernel_rfl) hf rfl rfl rfl (fun _ => Y_move rfl rfl) ?_; clear hf; intro a hf
              refine mYp (i := 2) rfl (by kernel_rfl) (by kernel_rfl) hf rfl rfl rfl (fun _ => Y_move rfl rfl) ?_; clear hf; intro a hf
              refine mYp (i := 3) rfl (by kernel_rfl) (by kernel_rfl) hf rfl rfl rfl (fun _ => Y_fieldAddr rfl rfl fo95_1) ?_; clear hf; intro a hf
              refine mY (i := 4) [[]] rfl (by kernel_rfl) (by kernel_rfl) hf hs0 rfl rfl rfl (Y_load_blk rfl rfl (i := 1) rfl rfl ag2) ?_; clear hf; intro a hf
              obtain ⟨q71, hi72, hm65⟩ := bind_some hm65
              obtain ⟨hi72a, hi72b, hi72q⟩ := idx_some hi72
              refine mYp (i := 5) rfl (by kernel_rfl) (by kernel_rfl) hf rfl rfl rfl (fun _ => Y_index rfl rfl rfl el28 ti2 (Rd.isAt (h_p2_x_1.at hs) (at1 (ints_at hi72q))) hi72a hi72b) ?_; clear hf; intro a hf
              refine mY (i := 6) [[]] rfl (by kernel_rfl) (by kernel_rfl) hf hs0 rfl rfl rfl (Y_load_rd rfl rfl (fun w hs => h_p2_x_1.at hs) (at1 (ints_at hi72q)) ag2) ?_; clear hf; intro a hf
              refine mYp (i := 7) rfl (by kernel_rfl) (by kernel_rfl) hf rfl rfl rfl (fun _ => Y_move rfl rfl) ?_; clear hf; intro a hf
              refine mYp (i := 8) rfl (by kernel_rfl) (by kernel_rfl) hf rfl rfl rfl (fun _ => Y_fieldAddr rfl rfl fo95_0) ?_; clear hf; intro a hf
              refine mY (i := 9) [[]] rfl (by kernel_rfl) (by kernel_rfl) hf hs0 rfl rfl rfl (Y_load_blk rfl rfl (i := 1) rfl rfl ag2) ?_; clear hf; intro a hf
              obtain ⟨q73, hi74, hm65⟩ := bind_some hm65
              obtain ⟨hi74a, hi74b, hi74q⟩ := idx_some hi74
              refine mYp (i := 10) rfl (by kernel_rfl) (by kernel_rfl) hf rfl rfl rfl (fun _ => Y_index rfl rfl rfl el28 ti2 (Rd.isAt (h_p2_x_1.at hs) (at1 (ints_at hi74q))) hi74a hi74b) ?_; clear hf; intro a hf
              refine mY (i := 11) [[]] rfl (by kernel_rfl) (by kernel_rfl) hf hs0 rfl rfl rfl (Y_load_rd rfl rfl (fun w hs => h_p2_x_1.at hs) (at1 (ints_at hi74q)) ag2) ?_; clear hf; intro a hf
              refine mYp (i := 12) rfl (by kernel_rfl) (by kernel_rfl) hf rfl rfl rfl (fun _ => Y_sub rfl rfl rfl) ?_; clear hf; intro a hf
              refine mYp (i := 13) rfl (by kernel_rfl) (by kernel_rfl) hf rfl rfl rfl (fun _ => Y_fieldAddr rfl rfl fo95_2) ?_; clear hf; intro a hf
              refine mY (i := 14) [[]] rfl (by kernel_rfl) (by kernel_rfl) hf hs0 rfl rfl rfl (Y_load_blk rfl rfl (i := 1) rfl rfl ag2) ?_; clear hf; intro a hf
              refine mYp (i := 15) rfl (by kernel_rfl) (by kernel_rfl) hf rfl rfl rfl (fun _ => Y_sub rfl rfl rfl) ?_; clear hf; intro a hf
              obtain ⟨q75, hi76, hm65⟩ := bind_some hm65
              obtain ⟨hi76a, hi76b, hi76q⟩ := idx_some hi76
              refine mYp (i := 16) rfl (by kernel_rfl) (by kernel_rfl) hf rfl rfl rfl (fun _ => Y_index rfl rfl rfl el28 ti2 (Rd.isAt (hs.rd (i := 0) rfl) (at1 (ints_at hi76q))) hi76a (ltn hn47 hi76b)) ?_; clear hf; intro a hf
              refine mRun (i := 17) rfl (by kernel_rfl) ?_
              obtain ⟨xs77, hu78, hm65⟩ := bind_some hm65
              refine sStoreL (i := 0) (us := [.int .i64 (IntKind.i64.wrap ((IntKind.i64.wrap (q71 - q73)) - q68.Least))]) (enc := ints) hf hs rfl rfl rfl rfl rfl rfl hn47 hu78 ti2 rfl rfl rfl rfl rfl ints_len1 (ints_set (IntKind.i64.wrap ((IntKind.i64.wrap (q71 - q73)) - q68.Least))) ?_; clear hs; intro w hs
              have hs : St [] W w [.row A16 xs18.length xs18.length 2 1 (ints xs77), .blk b70 95 [.int .i64 q68.From, .int .i64 q68.To, .int .i64 q68.Least]] := hs
              refine wpO_nil ⟨Or.inl (by decide), ?_⟩
              refine mDone (by kernel_rfl) ?_
              clear hs0
              refine wpL_nil (Qb_normal ?_)
              refine wpL_region ?_
              refine sY hf hs rfl rfl rfl (Y_add rfl rfl rfl) ?_; clear hf; intro a hf
              refine sY hf hs rfl rfl rfl (Y_move rfl rfl) ?_; clear hf; intro a hf
              refine wpO_nil ?_
              refine wpL_nil (Ql_normal ?_)
              exact ⟨xs77, (IntKind.i64.wrap (x48 + 1)), hm65, ((hn47).trans (upd_len hu78).symm), (FrD.pick (FrD.pick (FrD.pick (FrD.pick (FrD.pick hf.none hf rfl) hf rfl) hf rfl) hf rfl) hf rfl), hs.sel [0] (by decide)⟩
            · have hm65 := bif_f hm65 hb67
              refine wpL_exit (Ql_exit (Qb_exit ?_))
              exact ⟨xs46, Option.some.inj hm65, hn47, (FrD.pick hf.none hf rfl), hs⟩
        · rintro a w ⟨xs61, hr_, hn62, hf, hs⟩
          subst hr_
          try dsimp only at hm
          refine wpL_seq ?_
          refine wpL_region ?_
          refine sY hf hs rfl rfl rfl (Y_move rfl rfl) ?_; clear hf; intro a hf
          refine sY hf hs rfl rfl rfl (Y_assign rfl rfl) ?_; clear hf; intro a hf
          refine sY hf hs rfl rfl rfl (Y_assign rfl rfl) ?_; clear hf; intro a hf
          refine wpO_nil ?_
          obtain rfl := Option.some.inj hm
          refine wpL_ret (ret_tmp2 rfl hf rfl rfl ?_)
          exact ⟨_, rfl, A16, xs18.length, xs18.length, rfl, hn62, hs⟩

set_option maxRecDepth 100000 in
theorem spec_l01Within_ok (F : Nat) (p0_list : List Int) (A_p0_list_1 : Option Addr) (n_p0_list_1 c_p0_list_1 : Nat) (hn_p0_list_1 : n_p0_list_1 = p0_list.length) (p1_most : Int) (p2_low : Int) (p3_high : Int) (r : Bool) (W : World) (hm : spec_l01Within F p0_list p1_most p2_low p3_high = some r) (h_p0_list_1 : Rd W A_p0_list_1 (ints p0_list)) :
    Calls Try.prog 76 [.slice A_p0_list_1 n_p0_list_1 c_p0_list_1, .int .i64 p1_most, .int .i64 p2_low, .int .i64 p3_high].toArray W fun e w' => ∃ v, e = .returned v ∧ v = .bool r ∧ St [] W w' [] := by
  subst hn_p0_list_1
  unfold spec_l01Within at hm
  refine Calls.enter (N := 28) Try.func76 rfl rfl rfl (fun a hf => ?_)
  have hs := St.start W
  obtain ⟨w, hw_⟩ : ∃ w, w = W := ⟨W, rfl⟩
  clear hw_ w
  refine wpL_seq ?_
  refine wpL_region ?_
  refine sY hf hs rfl rfl rfl (Y_assign rfl rfl) ?_; clear hf; intro a hf
  refine wpO_nil ?_
  refine wpL_seq ?_
  refine wpL_seq ?_
  refine wpL_region ?_
  refine sY hf hs rfl rfl rfl (Y_assign rfl rfl) ?_; clear hf; intro a hf
  refine wpO_nil ?_
  obtain ⟨r21, hl22, hm⟩ := bind_some hm
  refine wpL_block (fun a w => Sum.inr () = r21 ∧ Fr a 28 [(0, .slice A_p0_list_1 p0_list.length c_p0_list_1), (1, .int .i64 p1_most)] ∧ St [] W w []) ?_ ?_
  · refine wpL_loop (fun n a w => ∃ x14 : Int, spec_l01Within_L1 F p0_list p2_low p3_high n x14 = some r21 ∧ Fr a 28 [(0, .slice A_p0_list_1 p0_list.length c_p0_list_1), (1, .int .i64 p1_most), (2, .int .i64 p2_low), (3, .int .i64 p3_high), (9, .int .i64 x14)] ∧ St [] W w []) F ?_ ?_ ?_
    · exact ⟨0, hl22, (FrD.pick (FrD.pick (FrD.pick (FrD.pick (FrD.pick hf.none hf rfl) hf rfl) hf rfl) hf rfl) hf rfl), hs⟩
    · rintro a w ⟨x14, h0_, -, -⟩; simp [spec_l01Within_L1] at h0_
    · rintro n24 a w ⟨x14, hm23, hf, hs⟩
      rw [spec_l01Within_L1] at hm23
      refine wpL_seq ?_
      refine wpL_seq ?_
      refine wpL_region ?_
      refine sY hf hs rfl rfl rfl (Y_move rfl rfl) ?_; clear hf; intro a hf
      refine sY hf hs rfl rfl rfl (Y_move rfl rfl) ?_; clear hf; intro a hf
      refine sY hf hs rfl rfl rfl (Y_lenH rfl rfl el28 rfl) ?_; clear hf; intro a hf
      refine sY hf hs rfl rfl rfl (Y_lss rfl rfl rfl) ?_; clear hf; intro a hf
      refine wpO_nil ?_
      refine wpL_cond hf rfl (fun hb25 => ?_) (fun hb25 => ?_)
      · have hm23 := bif_t hm23 hb25
        refine wpL_skip ?_
        refine wpL_seq ?_
        refine wpL_block0 ?_
        refine wpL_seq ?_
        refine wpL_region ?_
        refine sY hf hs rfl rfl rfl (Y_move rfl rfl) ?_; clear hf; intro a hf
        refine sY hf hs rfl rfl rfl (Y_move rfl rfl) ?_; clear hf; intro a hf
        obtain ⟨q26, hi27, hm23⟩ := bind_some hm23
        obtain ⟨hi27a, hi27b, hi27q⟩ := idx_some hi27
        refine sY hf hs rfl rfl rfl (Y_index rfl rfl rfl el28 ti2 (Rd.isAt (h_p0_list_1.at hs) (at1 (ints_at hi27q))) hi27a hi27b) ?_; clear hf; intro a hf
        refine sY hf hs rfl rfl rfl (Y_load_rd rfl rfl (fun w hs => h_p0_list_1.at hs) (at1 (ints_at hi27q)) ag2) ?_; clear hf; intro a hf
        refine sY hf hs rfl rfl rfl (Y_move rfl rfl) ?_; clear hf; intro a hf
        refine sY hf hs rfl rfl rfl (Y_move rfl rfl) ?_; clear hf; intro a hf
        obtain ⟨r28, hc29, hm23⟩ := bind_some hm23
        refine sCall hf rfl rfl rfl rfl (cap := []) rfl rfl en77 (spec_l01In_ok F q26 p2_low p3_high _ _ hc29) ?_; clear hf
        rintro _ w ⟨rfl, hs1⟩ a hf
        have hs : St [] W w [] := hs.ext hs1.below
        clear hs1
        refine sY hf hs rfl rfl rfl (Y_not rfl rfl) ?_; clear hf; intro a hf
        refine wpO_nil ?_
        refine wpL_cond hf rfl (fun hb30 => ?_) (fun hb30 => ?_)
        · have hm23 := bif_t hm23 hb30
          refine wpL_seq ?_
          refine wpL_region ?_
          refine sY hf hs rfl rfl rfl (Y_assign rfl rfl) ?_; clear hf; intro a hf
          refine wpO_nil ?_
          obtain rfl := Option.some.inj hm23
          try dsimp only at hm
          obtain rfl := Option.some.inj hm
          refine wpL_ret (Qb_ret (Ql_ret (Qb_ret (ret_tmp rfl hf rfl ?_))))
          exact ⟨_, rfl, rfl, hs⟩
        · have hm23 := bif_f hm23 hb30
          refine wpL_skip ?_
          refine wpL_nil (Qb_normal ?_)
          refine wpL_region ?_
          refine sY hf hs rfl rfl rfl (Y_move rfl rfl) ?_; clear hf; intro a hf
          refine sY hf hs rfl rfl rfl (Y_add rfl rfl rfl) ?_; clear hf; intro a hf
          refine sY hf hs rfl rfl rfl (Y_assign rfl rfl) ?_; clear hf; intro a hf
          refine wpO_nil ?_
          refine wpL_nil (Ql_normal ?_)
          exact ⟨(IntKind.i64.wrap (x14 + 1)), hm23, (FrD.pick (FrD.pick (FrD.pick (FrD.pick (FrD.pick hf.none hf rfl) hf rfl) hf rfl) hf rfl) hf rfl), hs⟩
      · have hm23 := bif_f hm23 hb25
        refine wpL_exit (Ql_exit (Qb_exit ?_))
        exact ⟨Option.some.inj hm23, (FrD.pick (FrD.pick hf.none hf rfl) hf rfl), hs⟩
  · rintro a w ⟨hr_, hf, hs⟩
    subst hr_
    try dsimp only at hm
    refine wpL_seq ?_
    refine wpL_region ?_
    refine sY hf hs rfl rfl rfl (Y_move rfl rfl) ?_; clear hf; intro a hf
    refine sY hf hs rfl rfl rfl (Y_lenH rfl rfl el28 rfl) ?_; clear hf; intro a hf
    refine sY hf hs rfl rfl rfl (Y_move rfl rfl) ?_; clear hf; intro a hf
    refine sY hf hs rfl rfl rfl (Y_leq rfl rfl rfl) ?_; clear hf; intro a hf
    refine sY hf hs rfl rfl rfl (Y_assign rfl rfl) ?_; clear hf; intro a hf
    refine wpO_nil ?_
    obtain rfl := Option.some.inj hm
    refine wpL_ret (ret_tmp rfl hf rfl ?_)
    exact ⟨_, rfl, rfl, hs⟩

set_option maxRecDepth 100000 in
theorem spec_SlackOfBonds_ok (F : Nat) (p0_windows : List GWindow) (A_p0_windows_1 : Option Addr) (n_p0_windows_1 c_p0_windows_1 : Nat) (hn_p0_windows_1 : n_p0_windows_1 = p0_windows.length) (p1_bonds : List GBond) (A_p1_bonds_1 : Option Addr) (n_p1_bonds_1 c_p1_bonds_1 : Nat) (hn_p1_bonds_1 : n_p1_bonds_1 = p1_bonds.length) (p2_x : List Int) (A_p2_x_1 : Option Addr) (n_p2_x_1 c_p2_x_1 : Nat) (hn_p2_x_1 : n_p2_x_1 = p2_x.length) (r : List Int × Int) (W : World) (hm : spec_SlackOfBonds F p0_windows p1_bonds p2_x = some r) (h_p0_windows_1 : Rd W A_p0_windows_1 ((recs GWindow.cells) p0_windows)) (h_p1_bonds_1 : Rd W A_p1_bonds_1 ((recs GBond.cells) p1_bonds)) (h_p2_x_1 : Rd W A_p2_x_1 (ints p2_x)) :
    Calls Try.prog 20 [.slice A_p0_windows_1 n_p0_windows_1 c_p0_windows_1, .slice A_p1_bonds_1 n_p1_bonds_1 c_p1_bonds_1, .slice A_p2_x_1 n_p2_x_1 c_p2_x_1].toArray W fun e w' => ∃ v, e = .returned v ∧ ∃ A107, ∃ n108, ∃ c109, v = .tuple #[.slice A107 n108 c109, .int .i64 r.2] ∧ n108 = r.1.length ∧ St [] W w' [.row A107 n108 c109 2 1 (ints r.1)] := by
  subst hn_p0_windows_1
  subst hn_p1_bonds_1
  subst hn_p2_x_1
  unfold spec_SlackOfBonds at hm
  refine Calls.enter (N := 60) Try.func20 rfl rfl rfl (fun a hf => ?_)
  have hs := St.start W
  obtain ⟨w, hw_⟩ : ∃ w, w = W := ⟨W, rfl⟩
  clear hw_ w
  refine wpL_seq ?_
  refine wpL_region ?_
  refine sY hf hs rfl rfl rfl (Y_assign rfl rfl) ?_; clear hf; intro a hf
  refine sY hf hs rfl rfl rfl (Y_assign rfl rfl) ?_; clear hf; intro a hf
  refine wpO_nil ?_
  refine wpL_seq ?_
  refine wpL_block0 ?_
  refine wpL_seq ?_
  refine wpL_region ?_
  refine sY hf hs rfl rfl rfl (Y_move rfl rfl) ?_; clear hf; intro a hf
  refine sY hf hs rfl rfl rfl (Y_move rfl rfl) ?_; clear hf; intro a hf
  obtain ⟨r1, hc2, hm⟩ := bind_some hm
  refine sCall hf rfl rfl rfl rfl (cap := []) rfl rfl en75 (spec_IsTask_ok F p0_windows A_p0_windows_1 p0_windows.length c_p0_windows_1 rfl p1_bonds A_p1_bonds_1 p1_bonds.length c_p1_bonds_1 rfl _ _ hc2 (h_p0_windows_1.at hs) (h_p1_bonds_1.at hs)) ?_; clear hf
  rintro _ w ⟨rfl, hs1⟩ a hf
  have hs : St [] W w [] := hs.ext hs1.below
  clear hs1
  refine sY hf hs rfl rfl rfl (Y_not rfl rfl) ?_; clear hf; intro a hf
  refine sY hf hs rfl rfl rfl (Y_assign rfl rfl) ?_; clear hf; intro a hf
  refine wpO_nil ?_
  refine wpL_cond hf rfl (fun hb3 => ?_) (fun hb3 => ?_)
  · have hm := bif_t hm hb3
    refine wpL_seq ?_
    refine wpL_region ?_
    refine sY hf hs rfl rfl rfl (Y_assign rfl rfl) ?_; clear hf; intro a hf
    refine sY hf hs rfl rfl rfl (Y_assign rfl rfl) ?_; clear hf; intro a hf
    refine wpO_nil ?_
    have hs : St [] W _ [.row none 0 0 2 1 (ints ([] : List Int))] := hs.addNil 2 1
    obtain rfl := Option.some.inj hm
    refine wpL_ret (Qb_ret (ret_tmp2 rfl hf rfl rfl ?_))
    exact ⟨_, rfl, none, 0, 0, rfl, rfl, hs⟩
  · have hm := bif_f hm hb3
    refine wpL_seq ?_
    obtain ⟨r9, hj10, hm⟩ := bind_some hm
    refine wpL_cut (fun a w => ∃ b8 : Bool, b8 = r9 ∧ Fr a 60 [(1, .slice A_p1_bonds_1 p1_bonds.length c_p1_bonds_1), (2, .slice A_p2_x_1 p2_x.length c_p2_x_1), (15, .bool b8)] ∧ St [] W w []) ?_ ?_
    · refine wpL_region ?_
      refine sY hf hs rfl rfl rfl (Y_move rfl rfl) ?_; clear hf; intro a hf
      refine sY hf hs rfl rfl rfl (Y_lenH rfl rfl el28 rfl) ?_; clear hf; intro a hf
      refine sY hf hs rfl rfl rfl (Y_move rfl rfl) ?_; clear hf; intro a hf
      refine sY hf hs rfl rfl rfl (Y_lenH rfl rfl el24 rfl) ?_; clear hf; intro a hf
      refine sY hf hs rfl rfl rfl (Y_neq rfl rfl rfl) ?_; clear hf; intro a hf
      refine sY hf hs rfl rfl rfl (Y_move rfl rfl) ?_; clear hf; intro a hf
      refine bsplit ((p2_x.length : Int) != (p0_windows.length : Int)) (fun hb11 => ?_) (fun hb11 => ?_)
      · have hj10 := bif_t hj10 hb11
        refine sNo hf rfl rfl rfl (congrArg (fun b => some (Value.bool b)) hb11) rfl rfl rfl ?_; clear hf; intro a hf
        refine sNo hf rfl rfl rfl (congrArg (fun b => some (Value.bool b)) hb11) rfl rfl rfl ?_; clear hf; intro a hf
        refine sNo hf rfl rfl rfl (congrArg (fun b => some (Value.bool b)) hb11) rfl rfl rfl ?_; clear hf; intro a hf
        refine sY hf hs rfl rfl rfl (Y_pickT rfl (congrArg (fun b => some (Value.bool b)) hb11) rfl) ?_; clear hf; intro a hf
        refine sY hf hs rfl rfl rfl (Y_assign rfl rfl) ?_; clear hf; intro a hf
        refine wpO_nil ?_
        refine wpL_nil (then_normal ?_)
        exact ⟨true, Option.some.inj hj10, (FrD.pick (FrD.pick (FrD.pick hf.none hf rfl) hf rfl) hf rfl), hs⟩
      · have hj10 := bif_f hj10 hb11
        refine sYg hf hs rfl rfl rfl (congrArg (fun b => some (Value.bool b)) hb11) rfl rfl rfl (Y_move rfl rfl) ?_; clear hf; intro a hf
        obtain ⟨r12, hc13, hj10⟩ := bind_some hj10
        refine sCallg hf rfl rfl rfl (congrArg (fun b => some (Value.bool b)) hb11) rfl rfl rfl rfl (cap := []) rfl rfl en76 (spec_l01Within_ok F p2_x A_p2_x_1 p2_x.length c_p2_x_1 rfl 10 0 1000000 _ _ hc13 (h_p2_x_1.at hs)) ?_; clear hf
        rintro _ w ⟨rfl, hs1⟩ a hf
        have hs : St [] W w [] := hs.ext hs1.below
        clear hs1
        refine sYg hf hs rfl rfl rfl (congrArg (fun b => some (Value.bool b)) hb11) rfl rfl rfl (Y_not rfl rfl) ?_; clear hf; intro a hf
        refine sY hf hs rfl rfl rfl (Y_pickF rfl (congrArg (fun b => some (Value.bool b)) hb11) rfl) ?_; clear hf; intro a hf
        refine sY hf hs rfl rfl rfl (Y_assign rfl rfl) ?_; clear hf; intro a hf
        refine wpO_nil ?_
        refine wpL_nil (then_normal ?_)
        exact ⟨(!r12), Option.some.inj hj10, (FrD.pick (FrD.pick (FrD.pick hf.none hf rfl) hf rfl) hf rfl), hs⟩
    · rintro a w ⟨b8, hr_, hf, hs⟩
      subst hr_
      try dsimp only at hm
      refine wpL_cond hf rfl (fun hb14 => ?_) (fun hb14 => ?_)
      · have hm := bif_t hm hb14
        refine wpL_seq ?_
        refine wpL_region ?_
        refine sY hf hs rfl rfl rfl (Y_assign rfl rfl) ?_; clear hf; intro a hf
        refine sY hf hs rfl rfl rfl (Y_assign rfl rfl) ?_; clear hf; intro a hf
        refine wpO_nil ?_
        have hs : St [] W _ [.row none 0 0 2 1 (ints ([] : List Int))] := hs.addNil 2 1
        obtain rfl := Option.some.inj hm
        refine wpL_ret (Qb_ret (ret_tmp2 rfl hf rfl rfl ?_))
        exact ⟨_, rfl, none, 0, 0, rfl, rfl, hs⟩
      · have hm := bif_f hm hb14
        refine wpL_skip ?_
        refine wpL_nil (Qb_normal ?_)
        refine wpL_seq ?_
        refine wpL_region ?_
        refine sEmpty hf hs rfl rfl rfl rfl el28 ti2 ?_; clear hf hs; intro a w A16 hs hf
        have hs : St [] W w [.row A16 0 0 2 1 (ints ([] : List Int))] := hs
        refine sY hf hs rfl rfl rfl (Y_assign rfl rfl) ?_; clear hf; intro a hf
        refine wpO_nil ?_
        refine wpL_seq ?_
        refine wpL_seq ?_
        refine wpL_region ?_
        refine sY hf hs rfl rfl rfl (Y_assign rfl rfl) ?_; clear hf; intro a hf
        refine wpO_nil ?_
        obtain ⟨r86, hl87, hm⟩ := bind_some hm
        refine wpL_block (fun a w => ∃ xs81 : List Int, ∃ A82, ∃ n83, ∃ c84, xs81 = r86 ∧ n83 = xs81.length ∧ Fr a 60 [(8, .slice A82 n83 c84)] ∧ St [] W w [.row A82 n83 c84 2 1 (ints xs81)]) ?_ ?_
        · refine wpL_loop (fun n a w => ∃ xs58 : List Int, ∃ x63 : Int, ∃ A59, ∃ n60, ∃ c61, spec_SlackOfBonds_L1 F p1_bonds p2_x n xs58 x63 = some r86 ∧ n60 = xs58.length ∧ Fr a 60 [(1, .slice A_p1_bonds_1 p1_bonds.length c_p1_bonds_1), (2, .slice A_p2_x_1 p2_x.length c_p2_x_1), (8, .slice A59 n60 c61), (9, .int .i64 x63)] ∧ St [] W w [.row A59 n60 c61 2 1 (ints xs58)]) F ?_ ?_ ?_
          · exact ⟨([] : List Int), 0, A16, 0, 0, hl87, rfl, (FrD.pick (FrD.pick (FrD.pick (FrD.pick hf.none hf rfl) hf rfl) hf rfl) hf rfl), hs⟩
          · rintro a w ⟨xs58, x63, A59, n60, c61, h0_, -, -, -⟩; simp [spec_SlackOfBonds_L1] at h0_
          · rintro n89 a w ⟨xs58, x63, A59, n60, c61, hm88, hn62, hf, hs⟩
            rw [spec_SlackOfBonds_L1] at hm88
            refine wpL_seq ?_
            refine wpL_seq ?_
            refine wpL_region ?_
            refine sY hf hs rfl rfl rfl (Y_move rfl rfl) ?_; clear hf; intro a hf
            refine sY hf hs rfl rfl rfl (Y_move rfl rfl) ?_; clear hf; intro a hf
            refine sY hf hs rfl rfl rfl (Y_lenH rfl rfl el25 rfl) ?_; clear hf; intro a hf
            refine sY hf hs rfl rfl rfl (Y_lss rfl rfl rfl) ?_; clear hf; intro a hf
            refine wpO_nil ?_
            refine wpL_cond hf rfl (fun hb90 => ?_) (fun hb90 => ?_)
            · have hm88 := bif_t hm88 hb90
              refine wpL_skip ?_
              refine wpL_seq ?_
              refine wpL_block0 ?_
              refine wpL_drawM [.row A59 n60 c61 2 1 (ints xs58)] [24, 25] (by kernel_rfl) hs ?_; clear hs; intro w hs
              have hs0 : St [] W w [.row A59 n60 c61 2 1 (ints xs58)] := hs
              refine mYp (i := 0) rfl (by kernel_rfl) (by kernel_rfl) hf rfl rfl rfl (fun _ => Y_move rfl rfl) ?_; clear hf; intro a hf
              refine mYp (i := 1) rfl (by kernel_rfl) (by kernel_rfl) hf rfl rfl rfl (fun _ => Y_move rfl rfl) ?_; clear hf; intro a hf
              refine mYp (i := 2) rfl (by kernel_rfl) (by kernel_rfl) hf rfl rfl rfl (fun _ => Y_move rfl rfl) ?_; clear hf; intro a hf
              refine mYp (i := 3) rfl (by kernel_rfl) (by kernel_rfl) hf rfl rfl rfl (fun _ => Y_move rfl rfl) ?_; clear hf; intro a hf
              obtain ⟨q91, hi92, hm88⟩ := bind_some hm88
              obtain ⟨hi92a, hi92b, hi92q⟩ := idx_some hi92
              refine mYp (i := 4) rfl (by kernel_rfl) (by kernel_rfl) hf rfl rfl rfl (fun _ => Y_index rfl rfl rfl el25 ti95 (Rd.isAt (h_p1_bonds_1.at hs) (recs_at (s := 3) GBond.len hi92q (j := 0) rfl)) hi92a hi92b) ?_; clear hf; intro a hf
              refine mYp (i := 5) rfl (by kernel_rfl) (by kernel_rfl) hf rfl rfl rfl (fun _ => Y_fieldAddrE rfl rfl fo95_1) ?_; clear hf; intro a hf
              refine mY (i := 6) [[7, 8, 17, 23], [7, 8, 17, 23, 24]] rfl (by kernel_rfl) (by kernel_rfl) hf hs0 rfl rfl rfl (Y_load_rd rfl rfl (fun w hs => h_p1_bonds_1.at hs) (recs_at (s := 3) GBond.len hi92q (j := 1) rfl) ag2) ?_; clear hf; intro a hf
              obtain ⟨q93, hi94, hm88⟩ := bind_some hm88
              obtain ⟨hi94a, hi94b, hi94q⟩ := idx_some hi94
              refine mYp (i := 7) rfl (by kernel_rfl) (by kernel_rfl) hf rfl rfl rfl (fun _ => Y_index rfl rfl rfl el28 ti2 (Rd.isAt (h_p2_x_1.at hs) (at1 (ints_at hi94q))) hi94a hi94b) ?_; clear hf; intro a hf
              refine mY (i := 8) [[17, 23], [17, 23, 24]] rfl (by kernel_rfl) (by kernel_rfl) hf hs0 rfl rfl rfl (Y_load_rd rfl rfl (fun w hs => h_p2_x_1.at hs) (at1 (ints_at hi94q)) ag2) ?_; clear hf; intro a hf
              refine mYp (i := 9) rfl (by kernel_rfl) (by kernel_rfl) hf rfl rfl rfl (fun _ => Y_move rfl rfl) ?_; clear hf; intro a hf
              refine mYp (i := 10) rfl (by kernel_rfl) (by kernel_rfl) hf rfl rfl rfl (fun _ => Y_move rfl rfl) ?_; clear hf; intro a hf
              refine mYp (i := 11) rfl (by kernel_rfl) (by kernel_rfl) hf rfl rfl rfl (fun _ => Y_move rfl rfl) ?_; clear hf; intro a hf
              obtain ⟨q95, hi96, hm88⟩ := bind_some hm88
              obtain ⟨hi96a, hi96b, hi96q⟩ := idx_some hi96
              refine mYp (i := 12) rfl (by kernel_rfl) (by kernel_rfl) hf rfl rfl rfl (fun _ => Y_index rfl rfl rfl el25 ti95 (Rd.isAt (h_p1_bonds_1.at hs) (recs_at (s := 3) GBond.len hi96q (j := 0) rfl)) hi96a hi96b) ?_; clear hf; intro a hf
              refine mYp (i := 13) rfl (by kernel_rfl) (by kernel_rfl) hf rfl rfl rfl (fun _ => Y_fieldAddrE rfl rfl fo95_0) ?_; clear hf; intro a hf
              refine mY (i := 14) [[15, 16, 17, 23], [15, 16, 17, 23, 24]] rfl (by kernel_rfl) (by kernel_rfl) hf hs0 rfl rfl rfl (Y_load_rd rfl rfl (fun w hs => h_p1_bonds_1.at hs) (recs_at (s := 3) GBond.len hi96q (j := 0) rfl) ag2) ?_; clear hf; intro a hf
              obtain ⟨q97, hi98, hm88⟩ := bind_some hm88
              obtain ⟨hi98a, hi98b, hi98q⟩ := idx_some hi98
              refine mYp (i := 15) rfl (by kernel_rfl) (by kernel_rfl) hf rfl rfl rfl (fun _ => Y_index rfl rfl rfl el28 ti2 (Rd.isAt (h_p2_x_1.at hs) (at1 (ints_at hi98q))) hi98a hi98b) ?_; clear hf; intro a hf
              refine mY (i := 16) [[17, 23], [17, 23, 24]] rfl (by kernel_rfl) (by kernel_rfl) hf hs0 rfl rfl rfl (Y_load_rd rfl rfl (fun w hs => h_p2_x_1.at hs) (at1 (ints_at hi98q)) ag2) ?_; clear hf; intro a hf
              refine mYp (i := 17) rfl (by kernel_rfl) (by kernel_rfl) hf rfl rfl rfl (fun _ => Y_sub rfl rfl rfl) ?_; clear hf; intro a hf
              refine mYp (i := 18) rfl (by kernel_rfl) (by kernel_rfl) hf rfl rfl rfl (fun _ => Y_move rfl rfl) ?_; clear hf; intro a hf
              refine mYp (i := 19) rfl (by kernel_rfl) (by kernel_rfl) hf rfl rfl rfl (fun _ => Y_move rfl rfl) ?_; clear hf; intro a hf
              obtain ⟨q99, hi100, hm88⟩ := bind_some hm88
              obtain ⟨hi100a, hi100b, hi100q⟩ := idx_some hi100
              refine mYp (i := 20) rfl (by kernel_rfl) (by kernel_rfl) hf rfl rfl rfl (fun _ => Y_index rfl rfl rfl el25 ti95 (Rd.isAt (h_p1_bonds_1.at hs) (recs_at (s := 3) GBond.len hi100q (j := 0) rfl)) hi100a hi100b) ?_; clear hf; intro a hf
              refine mYp (i := 21) rfl (by kernel_rfl) (by kernel_rfl) hf rfl rfl rfl (fun _ => Y_fieldAddrE rfl rfl fo95_2) ?_; clear hf; intro a hf
              refine mY (i := 22) [[23], [23, 24]] rfl (by kernel_rfl) (by kernel_rfl) hf hs0 rfl rfl rfl (Y_load_rd rfl rfl (fun w hs => h_p1_bonds_1.at hs) (recs_at (s := 3) GBond.len hi100q (j := 2) rfl) ag2) ?_; clear hf; intro a hf
              refine mYp (i := 23) rfl (by kernel_rfl) (by kernel_rfl) hf rfl rfl rfl (fun _ => Y_sub rfl rfl rfl) ?_; clear hf; intro a hf
              refine mRun (i := 24) rfl (by kernel_rfl) ?_
              refine sBuildSlice (parts := [(0, .tmp 56)]) (vs := [.int .i64 (IntKind.i64.wrap ((IntKind.i64.wrap (q93 - q97)) - q99.Least))]) (cells := [.int .i64 (IntKind.i64.wrap ((IntKind.i64.wrap (q93 - q97)) - q99.Least))]) hf hs rfl rfl rfl rfl rfl el28 ti2 rfl rfl rfl rfl ?_; clear hf hs; intro a w A101 hs hA102 hf
              have hs : St [] W w [.row A59 n60 c61 2 1 (ints xs58), .row A101 1 1 2 1 (ints ([(IntKind.i64.wrap ((IntKind.i64.wrap (q93 - q97)) - q99.Least))]))] := hs
              refine wpO_nil ⟨Or.inl (by decide), ?_⟩
              refine mRun (i := 25) rfl (by kernel_rfl) ?_
              obtain ⟨xs105, ha106, hm88⟩ := bind_some hm88
              refine sAppendL (i := 0) (xs := xs58) (ys := [(IntKind.i64.wrap ((IntKind.i64.wrap (q93 - q97)) - q99.Least))]) (enc := ints) hf hs rfl rfl rfl rfl rfl rfl hn62 rfl rfl ha106 el28 ti2 rfl rfl rfl (hs.rd (i := 1) rfl) (Nat.succ_pos _) ints_len1 ints_append ints_one ?_; clear hf hs; intro a w A103 c104 hs hf
              have hs : St [] W w [.row A103 xs105.length c104 2 1 (ints xs105), .row A101 1 1 2 1 (ints ([(IntKind.i64.wrap ((IntKind.i64.wrap (q93 - q97)) - q99.Least))]))] := hs
              refine wpO_nil ⟨Or.inl (by decide), ?_⟩
              refine mYp (i := 26) rfl (by kernel_rfl) (by kernel_rfl) hf rfl rfl rfl (fun _ => Y_assign rfl rfl) ?_; clear hf; intro a hf
              refine mDone (by kernel_rfl) ?_
              clear hs0
              refine wpL_nil (Qb_normal ?_)
              refine wpL_region ?_
              refine sY hf hs rfl rfl rfl (Y_move rfl rfl) ?_; clear hf; intro a hf
              refine sY hf hs rfl rfl rfl (Y_add rfl rfl rfl) ?_; clear hf; intro a hf
              refine sY hf hs rfl rfl rfl (Y_assign rfl rfl) ?_; clear hf; intro a hf
              refine wpO_nil ?_
              refine wpL_nil (Ql_normal ?_)
              exact ⟨xs105, (IntKind.i64.wrap (x63 + 1)), A103, xs105.length, c104, hm88, rfl, (FrD.pick (FrD.pick (FrD.pick (FrD.pick hf.none hf rfl) hf rfl) hf rfl) hf rfl), hs.sel [0] (by decide)⟩
            · have hm88 := bif_f hm88 hb90
              refine wpL_exit (Ql_exit (Qb_exit ?_))
              exact ⟨xs58, A59, n60, c61, Option.some.inj hm88, hn62, (FrD.pick hf.none hf rfl), hs⟩
        · rintro a w ⟨xs81, A82, n83, c84, hr_, hn85, hf, hs⟩
          subst hr_
          try dsimp only at hm
          refine wpL_seq ?_
          refine wpL_region ?_
          refine sY hf hs rfl rfl rfl (Y_move rfl rfl) ?_; clear hf; intro a hf
          refine sY hf hs rfl rfl rfl (Y_assign rfl rfl) ?_; clear hf; intro a hf
          refine sY hf hs rfl rfl rfl (Y_assign rfl rfl) ?_; clear hf; intro a hf
          refine wpO_nil ?_
          obtain rfl := Option.some.inj hm
          refine wpL_ret (ret_tmp2 rfl hf rfl rfl ?_)
          exact ⟨_, rfl, A82, n83, c84, rfl, hn85, hs⟩

set_option maxRecDepth 100000 in
theorem laws_likeInts_ok (F : Nat) (p0_a : List Int) (A_p0_a_1 : Option Addr) (n_p0_a_1 c_p0_a_1 : Nat) (hn_p0_a_1 : n_p0_a_1 = p0_a.length) (p1_b : List Int) (A_p1_b_1 : Option Addr) (n_p1_b_1 c_p1_b_1 : Nat) (hn_p1_b_1 : n_p1_b_1 = p1_b.length) (r : Bool) (W : World) (hm : laws_likeInts F p0_a p1_b = some r) (h_p0_a_1 : Rd W A_p0_a_1 (ints p0_a)) (h_p1_b_1 : Rd W A_p1_b_1 (ints p1_b)) :
    Calls Try.prog 21 [.slice A_p0_a_1 n_p0_a_1 c_p0_a_1, .slice A_p1_b_1 n_p1_b_1 c_p1_b_1].toArray W fun e w' => ∃ v, e = .returned v ∧ v = .bool r ∧ St [] W w' [] := by
  subst hn_p0_a_1
  subst hn_p1_b_1
  unfold laws_likeInts at hm
  refine Calls.enter (N := 26) Try.func21 rfl rfl rfl (fun a hf => ?_)
  have hs := St.start W
  obtain ⟨w, hw_⟩ : ∃ w, w = W := ⟨W, rfl⟩
  clear hw_ w
  refine wpL_seq ?_
  refine wpL_region ?_
  refine sY hf hs rfl rfl rfl (Y_assign rfl rfl) ?_; clear hf; intro a hf
  refine wpO_nil ?_
  refine wpL_seq ?_
  refine wpL_seq ?_
  refine wpL_region ?_
  refine sY hf hs rfl rfl rfl (Y_move rfl rfl) ?_; clear hf; intro a hf
  refine sY hf hs rfl rfl rfl (Y_lenH rfl rfl el28 rfl) ?_; clear hf; intro a hf
  refine sY hf hs rfl rfl rfl (Y_move rfl rfl) ?_; clear hf; intro a hf
  refine sY hf hs rfl rfl rfl (Y_lenH rfl rfl el28 rfl) ?_; clear hf; intro a hf
  refine sY hf hs rfl rfl rfl (Y_neq rfl rfl rfl) ?_; clear hf; intro a hf
  refine wpO_nil ?_
  refine wpL_cond hf rfl (fun hb1 => ?_) (fun hb1 => ?_)
  · have hm := bif_t hm hb1
    refine wpL_seq ?_
    refine wpL_region ?_
    refine sY hf hs rfl rfl rfl (Y_assign rfl rfl) ?_; clear hf; intro a hf
    refine wpO_nil ?_
    obtain rfl := Option.some.inj hm
    refine wpL_ret (ret_tmp rfl hf rfl ?_)
    exact ⟨_, rfl, rfl, hs⟩
  · have hm := bif_f hm hb1
    refine wpL_skip ?_
    refine wpL_seq ?_
    refine wpL_seq ?_
    refine wpL_region ?_
    refine sY hf hs rfl rfl rfl (Y_assign rfl rfl) ?_; clear hf; intro a hf
    refine wpO_nil ?_
    obtain ⟨r22, hl23, hm⟩ := bind_some hm
    refine wpL_block (fun a w => Sum.inr () = r22 ∧ Fr a 26 [] ∧ St [] W w []) ?_ ?_
    · refine wpL_loop (fun n a w => ∃ x15 : Int, laws_likeInts_L1 F p0_a p1_b n x15 = some r22 ∧ Fr a 26 [(0, .slice A_p0_a_1 p0_a.length c_p0_a_1), (1, .slice A_p1_b_1 p1_b.length c_p1_b_1), (5, .int .i64 x15)] ∧ St [] W w []) F ?_ ?_ ?_
      · exact ⟨0, hl23, (FrD.pick (FrD.pick (FrD.pick hf.none hf rfl) hf rfl) hf rfl), hs⟩
      · rintro a w ⟨x15, h0_, -, -⟩; simp [laws_likeInts_L1] at h0_
      · rintro n25 a w ⟨x15, hm24, hf, hs⟩
        rw [laws_likeInts_L1] at hm24
        refine wpL_seq ?_
        refine wpL_seq ?_
        refine wpL_region ?_
        refine sY hf hs rfl rfl rfl (Y_move rfl rfl) ?_; clear hf; intro a hf
        refine sY hf hs rfl rfl rfl (Y_move rfl rfl) ?_; clear hf; intro a hf
        refine sY hf hs rfl rfl rfl (Y_lenH rfl rfl el28 rfl) ?_; clear hf; intro a hf
        refine sY hf hs rfl rfl rfl (Y_lss rfl rfl rfl) ?_; clear hf; intro a hf
        refine wpO_nil ?_
        refine wpL_cond hf rfl (fun hb26 => ?_) (fun hb26 => ?_)
        · have hm24 := bif_t hm24 hb26
          refine wpL_skip ?_
          refine wpL_seq ?_
          refine wpL_block0 ?_
          refine wpL_seq ?_
          refine wpL_draw (by kernel_rfl) (by kernel_rfl) hs ?_
          refine qY hf rfl rfl rfl (Y_move rfl rfl) ?_; clear hf; intro a hf
          refine qY hf rfl rfl rfl (Y_move rfl rfl) ?_; clear hf; intro a hf
          obtain ⟨q27, hi28, hm24⟩ := bind_some hm24
          obtain ⟨hi28a, hi28b, hi28q⟩ := idx_some hi28
          refine qY hf rfl rfl rfl (Y_index rfl rfl rfl el28 ti2 (Rd.isAt (h_p0_a_1.at hs) (at1 (ints_at hi28q))) hi28a hi28b) ?_; clear hf; intro a hf
          refine qY hf rfl rfl rfl (Y_load_rd rfl rfl (fun w hs => h_p0_a_1.at hs) (at1 (ints_at hi28q)) ag2) ?_; clear hf; intro a hf
          refine qY hf rfl rfl rfl (Y_move rfl rfl) ?_; clear hf; intro a hf
          refine qY hf rfl rfl rfl (Y_move rfl rfl) ?_; clear hf; intro a hf
          obtain ⟨q29, hi30, hm24⟩ := bind_some hm24
          obtain ⟨hi30a, hi30b, hi30q⟩ := idx_some hi30
          refine qY hf rfl rfl rfl (Y_index rfl rfl rfl el28 ti2 (Rd.isAt (h_p1_b_1.at hs) (at1 (ints_at hi30q))) hi30a hi30b) ?_; clear hf; intro a hf
          refine qY hf rfl rfl rfl (Y_load_rd rfl rfl (fun w hs => h_p1_b_1.at hs) (at1 (ints_at hi30q)) ag2) ?_; clear hf; intro a hf
          refine qY hf rfl rfl rfl (Y_neq rfl rfl rfl) ?_; clear hf; intro a hf
          refine qNil ?_; clear hs; intro w hs
          refine wpL_cond hf rfl (fun hb31 => ?_) (fun hb31 => ?_)
          · have hm24 := bif_t hm24 hb31
            refine wpL_seq ?_
            refine wpL_region ?_
            refine sY hf hs rfl rfl rfl (Y_assign rfl rfl) ?_; clear hf; intro a hf
            refine wpO_nil ?_
            obtain rfl := Option.some.inj hm24
            try dsimp only at hm
            obtain rfl := Option.some.inj hm
            refine wpL_ret (Qb_ret (Ql_ret (Qb_ret (ret_tmp rfl hf rfl ?_))))
            exact ⟨_, rfl, rfl, hs⟩
          · have hm24 := bif_f hm24 hb31
            refine wpL_skip ?_
            refine wpL_nil (Qb_normal ?_)
            refine wpL_region ?_
            refine sY hf hs rfl rfl rfl (Y_move rfl rfl) ?_; clear hf; intro a hf
            refine sY hf hs rfl rfl rfl (Y_add rfl rfl rfl) ?_; clear hf; intro a hf
            refine sY hf hs rfl rfl rfl (Y_assign rfl rfl) ?_; clear hf; intro a hf
            refine wpO_nil ?_
            refine wpL_nil (Ql_normal ?_)
            exact ⟨(IntKind.i64.wrap (x15 + 1)), hm24, (FrD.pick (FrD.pick (FrD.pick hf.none hf rfl) hf rfl) hf rfl), hs⟩
        · have hm24 := bif_f hm24 hb26
          refine wpL_exit (Ql_exit (Qb_exit ?_))
          exact ⟨Option.some.inj hm24, hf.none, hs⟩
    · rintro a w ⟨hr_, hf, hs⟩
      subst hr_
      try dsimp only at hm
      refine wpL_seq ?_
      refine wpL_region ?_
      refine sY hf hs rfl rfl rfl (Y_assign rfl rfl) ?_; clear hf; intro a hf
      refine wpO_nil ?_
      obtain rfl := Option.some.inj hm
      refine wpL_ret (ret_tmp rfl hf rfl ?_)
      exact ⟨_, rfl, rfl, hs⟩

set_option maxRecDepth 100000 in
theorem spec_IsWindowSolution_ok (F : Nat) (p0 : List GWindow) (A_p0_1 : Option Addr) (n_p0_1 c_p0_1 : Nat) (hn_p0_1 : n_p0_1 = p0.length) (p1 : List GBond) (A_p1_1 : Option Addr) (n_p1_1 c_p1_1 : Nat) (hn_p1_1 : n_p1_1 = p1.length) (p2 : List Int) (A_p2_1 : Option Addr) (n_p2_1 c_p2_1 : Nat) (hn_p2_1 : n_p2_1 = p2.length) (r : Bool) (W : World) (hm : spec_IsWindowSolution F p0 p1 p2 = some r) (h_p0_1 : Rd W A_p0_1 ((recs GWindow.cells) p0)) (h_p1_1 : Rd W A_p1_1 ((recs GBond.cells) p1)) (h_p2_1 : Rd W A_p2_1 (ints p2)) :
    Calls Try.prog 22 [.slice A_p0_1 n_p0_1 c_p0_1, .slice A_p1_1 n_p1_1 c_p1_1, .slice A_p2_1 n_p2_1 c_p2_1].toArray W fun e w' => ∃ v, e = .returned v ∧ v = .bool r ∧ St [] W w' [] := by
  subst hn_p0_1
  subst hn_p1_1
  subst hn_p2_1
  unfold spec_IsWindowSolution at hm
  refine Calls.enter (N := 71) Try.func22 rfl rfl rfl (fun a hf => ?_)
  have hs := St.start W
  obtain ⟨w, hw_⟩ : ∃ w, w = W := ⟨W, rfl⟩
  clear hw_ w
  refine wpL_seq ?_
  refine wpL_region ?_
  refine sY hf hs rfl rfl rfl (Y_assign rfl rfl) ?_; clear hf; intro a hf
  refine wpO_nil ?_
  refine wpL_seq ?_
  refine wpL_seq ?_
  obtain ⟨r5, hj6, hm⟩ := bind_some hm
  refine wpL_cut (fun a w => ∃ b4 : Bool, b4 = r5 ∧ Fr a 71 [(0, .slice A_p0_1 p0.length c_p0_1), (1, .slice A_p1_1 p1.length c_p1_1), (2, .slice A_p2_1 p2.length c_p2_1), (19, .bool b4)] ∧ St [] W w []) ?_ ?_
  · refine wpL_region ?_
    refine sY hf hs rfl rfl rfl (Y_move rfl rfl) ?_; clear hf; intro a hf
    refine sY hf hs rfl rfl rfl (Y_move rfl rfl) ?_; clear hf; intro a hf
    obtain ⟨r7, hc8, hj6⟩ := bind_some hj6
    refine sCall hf rfl rfl rfl rfl (cap := []) rfl rfl en75 (spec_IsTask_ok F p0 A_p0_1 p0.length c_p0_1 rfl p1 A_p1_1 p1.length c_p1_1 rfl _ _ hc8 (h_p0_1.at hs) (h_p1_1.at hs)) ?_; clear hf
    rintro _ w ⟨rfl, hs1⟩ a hf
    have hs : St [] W w [] := hs.ext hs1.below
    clear hs1
    refine sY hf hs rfl rfl rfl (Y_not rfl rfl) ?_; clear hf; intro a hf
    refine sY hf hs rfl rfl rfl (Y_move rfl rfl) ?_; clear hf; intro a hf
    refine bsplit (!r7) (fun hb9 => ?_) (fun hb9 => ?_)
    · have hj6 := bif_t hj6 hb9
      refine sNo hf rfl rfl rfl (congrArg (fun b => some (Value.bool b)) hb9) rfl rfl rfl ?_; clear hf; intro a hf
      refine sNo hf rfl rfl rfl (congrArg (fun b => some (Value.bool b)) hb9) rfl rfl rfl ?_; clear hf; intro a hf
      refine sNo hf rfl rfl rfl (congrArg (fun b => some (Value.bool b)) hb9) rfl rfl rfl ?_; clear hf; intro a hf
      refine sNo hf rfl rfl rfl (congrArg (fun b => some (Value.bool b)) hb9) rfl rfl rfl ?_; clear hf; intro a hf
      refine sNo hf rfl rfl rfl (congrArg (fun b => some (Value.bool b)) hb9) rfl rfl rfl ?_; clear hf; intro a hf
      refine sY hf hs rfl rfl rfl (Y_pickT rfl (congrArg (fun b => some (Value.bool b)) hb9) rfl) ?_; clear hf; intro a hf
      refine wpO_nil ?_
      refine wpL_nil (then_normal ?_)
      exact ⟨true, Option.some.inj hj6, (FrD.pick (FrD.pick (FrD.pick (FrD.pick hf.none hf rfl) hf rfl) hf rfl) hf rfl), hs⟩
    · have hj6 := bif_f hj6 hb9
      refine sYg hf hs rfl rfl rfl (congrArg (fun b => some (Value.bool b)) hb9) rfl rfl rfl (Y_move rfl rfl) ?_; clear hf; intro a hf
      refine sYg hf hs rfl rfl rfl (congrArg (fun b => some (Value.bool b)) hb9) rfl rfl rfl (Y_lenH rfl rfl el28 rfl) ?_; clear hf; intro a hf
      refine sYg hf hs rfl rfl rfl (congrArg (fun b => some (Value.bool b)) hb9) rfl rfl rfl (Y_move rfl rfl) ?_; clear hf; intro a hf
      refine sYg hf hs rfl rfl rfl (congrArg (fun b => some (Value.bool b)) hb9) rfl rfl rfl (Y_lenH rfl rfl el24 rfl) ?_; clear hf; intro a hf
      refine sYg hf hs rfl rfl rfl (congrArg (fun b => some (Value.bool b)) hb9) rfl rfl rfl (Y_neq rfl rfl rfl) ?_; clear hf; intro a hf
      refine sY hf hs rfl rfl rfl (Y_pickF rfl (congrArg (fun b => some (Value.bool b)) hb9) rfl) ?_; clear hf; intro a hf
      refine wpO_nil ?_
      refine wpL_nil (then_normal ?_)
      exact ⟨((p2.length : Int) != (p0.length : Int)), Option.some.inj hj6, (FrD.pick (FrD.pick (FrD.pick (FrD.pick hf.none hf rfl) hf rfl) hf rfl) hf rfl), hs⟩
  · rintro a w ⟨b4, hr_, hf, hs⟩
    subst hr_
    try dsimp only at hm
    refine wpL_cond hf rfl (fun hb10 => ?_) (fun hb10 => ?_)
    · have hm := bif_t hm hb10
      refine wpL_seq ?_
      refine wpL_region ?_
      refine sY hf hs rfl rfl rfl (Y_assign rfl rfl) ?_; clear hf; intro a hf
      refine wpO_nil ?_
      obtain rfl := Option.some.inj hm
      refine wpL_ret (ret_tmp rfl hf rfl ?_)
      exact ⟨_, rfl, rfl, hs⟩
    · have hm := bif_f hm hb10
      refine wpL_skip ?_
      refine wpL_seq ?_
      refine wpL_seq ?_
      refine wpL_region ?_
      refine sY hf hs rfl rfl rfl (Y_assign rfl rfl) ?_; clear hf; intro a hf
      refine wpO_nil ?_
      obtain ⟨r43, hl44, hm⟩ := bind_some hm
      refine wpL_block (fun a w => Sum.inr () = r43 ∧ Fr a 71 [(1, .slice A_p1_1 p1.length c_p1_1), (2, .slice A_p2_1 p2.length c_p2_1)] ∧ St [] W w []) ?_ ?_
      · refine wpL_loop (fun n a w => ∃ x32 : Int, spec_IsWindowSolution_L1 F p0 p2 n x32 = some r43 ∧ Fr a 71 [(0, .slice A_p0_1 p0.length c_p0_1), (1, .slice A_p1_1 p1.length c_p1_1), (2, .slice A_p2_1 p2.length c_p2_1), (7, .int .i64 x32)] ∧ St [] W w []) F ?_ ?_ ?_
        · exact ⟨0, hl44, (FrD.pick (FrD.pick (FrD.pick (FrD.pick hf.none hf rfl) hf rfl) hf rfl) hf rfl), hs⟩
        · rintro a w ⟨x32, h0_, -, -⟩; simp [spec_IsWindowSolution_L1] at h0_
        · rintro n46 a w ⟨x32, hm45, hf, hs⟩
          rw [spec_IsWindowSolution_L1] at hm45
          refine wpL_seq ?_
          refine wpL_seq ?_
          refine wpL_region ?_
          refine sY hf hs rfl rfl rfl (Y_move rfl rfl) ?_; clear hf; intro a hf
          refine sY hf hs rfl rfl rfl (Y_move rfl rfl) ?_; clear hf; intro a hf
          refine sY hf hs rfl rfl rfl (Y_lenH rfl rfl el28 rfl) ?_; clear hf; intro a hf
          refine sY hf hs rfl rfl rfl (Y_lss rfl rfl rfl) ?_; clear hf; intro a hf
          refine wpO_nil ?_
          refine wpL_cond hf rfl (fun hb47 => ?_) (fun hb47 => ?_)
          · have hm45 := bif_t hm45 hb47
            refine wpL_skip ?_
            refine wpL_seq ?_
            refine wpL_block0 ?_
            refine wpL_seq ?_
            refine wpL_draw (by kernel_rfl) (by kernel_rfl) hs ?_
            refine qY hf rfl rfl rfl (Y_move rfl rfl) ?_; clear hf; intro a hf
            refine qY hf rfl rfl rfl (Y_move rfl rfl) ?_; clear hf; intro a hf
            obtain ⟨q48, hi49, hm45⟩ := bind_some hm45
            obtain ⟨hi49a, hi49b, hi49q⟩ := idx_some hi49
            refine qY hf rfl rfl rfl (Y_index rfl rfl rfl el28 ti2 (Rd.isAt (h_p2_1.at hs) (at1 (ints_at hi49q))) hi49a hi49b) ?_; clear hf; intro a hf
            refine qY hf rfl rfl rfl (Y_load_rd rfl rfl (fun w hs => h_p2_1.at hs) (at1 (ints_at hi49q)) ag2) ?_; clear hf; intro a hf
            refine qY hf rfl rfl rfl (Y_move rfl rfl) ?_; clear hf; intro a hf
            refine qY hf rfl rfl rfl (Y_move rfl rfl) ?_; clear hf; intro a hf
            obtain ⟨q50, hi51, hm45⟩ := bind_some hm45
            obtain ⟨hi51a, hi51b, hi51q⟩ := idx_some hi51
            refine qY hf rfl rfl rfl (Y_index rfl rfl rfl el24 ti39 (Rd.isAt (h_p0_1.at hs) (recs_at (s := 2) GWindow.len hi51q (j := 0) rfl)) hi51a hi51b) ?_; clear hf; intro a hf
            refine qY hf rfl rfl rfl (Y_fieldAddrE rfl rfl fo39_0) ?_; clear hf; intro a hf
            refine qY hf rfl rfl rfl (Y_load_rd rfl rfl (fun w hs => h_p0_1.at hs) (recs_at (s := 2) GWindow.len hi51q (j := 0) rfl) ag2) ?_; clear hf; intro a hf
            refine qY hf rfl rfl rfl (Y_move rfl rfl) ?_; clear hf; intro a hf
            refine qY hf rfl rfl rfl (Y_move rfl rfl) ?_; clear hf; intro a hf
            obtain ⟨q52, hi53, hm45⟩ := bind_some hm45
            obtain ⟨hi53a, hi53b, hi53q⟩ := idx_some hi53
            refine qY hf rfl rfl rfl (Y_index rfl rfl rfl el24 ti39 (Rd.isAt (h_p0_1.at hs) (recs_at (s := 2) GWindow.len hi53q (j := 0) rfl)) hi53a hi53b) ?_; clear hf; intro a hf
            refine qY hf rfl rfl rfl (Y_fieldAddrE rfl rfl fo39_1) ?_; clear hf; intro a hf
            refine qY hf rfl rfl rfl (Y_load_rd rfl rfl (fun w hs => h_p0_1.at hs) (recs_at (s := 2) GWindow.len hi53q (j := 1) rfl) ag2) ?_; clear hf; intro a hf
            obtain ⟨r54, hc55, hm45⟩ := bind_some hm45
            refine qCall hf rfl rfl rfl rfl (cap := []) rfl rfl en77 (v := .bool r54) (fun w hs => Calls.scal (spec_l01In_ok F q48 q50.Low q52.High _ _ hc55)) ?_; clear hf; intro a hf
            refine qY hf rfl rfl rfl (Y_not rfl rfl) ?_; clear hf; intro a hf
            refine qNil ?_; clear hs; intro w hs
            refine wpL_cond hf rfl (fun hb56 => ?_) (fun hb56 => ?_)
            · have hm45 := bif_t hm45 hb56
              refine wpL_seq ?_
              refine wpL_region ?_
              refine sY hf hs rfl rfl rfl (Y_assign rfl rfl) ?_; clear hf; intro a hf
              refine wpO_nil ?_
              obtain rfl := Option.some.inj hm45
              try dsimp only at hm
              obtain rfl := Option.some.inj hm
              refine wpL_ret (Qb_ret (Ql_ret (Qb_ret (ret_tmp rfl hf rfl ?_))))
              exact ⟨_, rfl, rfl, hs⟩
            · have hm45 := bif_f hm45 hb56
              refine wpL_skip ?_
              refine wpL_nil (Qb_normal ?_)
              refine wpL_region ?_
              refine sY hf hs rfl rfl rfl (Y_move rfl rfl) ?_; clear hf; intro a hf
              refine sY hf hs rfl rfl rfl (Y_add rfl rfl rfl) ?_; clear hf; intro a hf
              refine sY hf hs rfl rfl rfl (Y_assign rfl rfl) ?_; clear hf; intro a hf
              refine wpO_nil ?_
              refine wpL_nil (Ql_normal ?_)
              exact ⟨(IntKind.i64.wrap (x32 + 1)), hm45, (FrD.pick (FrD.pick (FrD.pick (FrD.pick hf.none hf rfl) hf rfl) hf rfl) hf rfl), hs⟩
          · have hm45 := bif_f hm45 hb47
            refine wpL_exit (Ql_exit (Qb_exit ?_))
            exact ⟨Option.some.inj hm45, (FrD.pick (FrD.pick hf.none hf rfl) hf rfl), hs⟩
      · rintro a w ⟨hr_, hf, hs⟩
        subst hr_
        try dsimp only at hm
        refine wpL_seq ?_
        refine wpL_seq ?_
        refine wpL_region ?_
        refine sY hf hs rfl rfl rfl (Y_assign rfl rfl) ?_; clear hf; intro a hf
        refine wpO_nil ?_
        obtain ⟨r95, hl96, hm⟩ := bind_some hm
        refine wpL_block (fun a w => Sum.inr () = r95 ∧ Fr a 71 [] ∧ St [] W w []) ?_ ?_
        · refine wpL_loop (fun n a w => ∃ x82 : Int, spec_IsWindowSolution_L2 F p1 p2 n x82 = some r95 ∧ Fr a 71 [(1, .slice A_p1_1 p1.length c_p1_1), (2, .slice A_p2_1 p2.length c_p2_1), (8, .int .i64 x82)] ∧ St [] W w []) F ?_ ?_ ?_
          · exact ⟨0, hl96, (FrD.pick (FrD.pick (FrD.pick hf.none hf rfl) hf rfl) hf rfl), hs⟩
          · rintro a w ⟨x82, h0_, -, -⟩; simp [spec_IsWindowSolution_L2] at h0_
          · rintro n98 a w ⟨x82, hm97, hf, hs⟩
            rw [spec_IsWindowSolution_L2] at hm97
            refine wpL_seq ?_
            refine wpL_seq ?_
            refine wpL_region ?_
            refine sY hf hs rfl rfl rfl (Y_move rfl rfl) ?_; clear hf; intro a hf
            refine sY hf hs rfl rfl rfl (Y_move rfl rfl) ?_; clear hf; intro a hf
            refine sY hf hs rfl rfl rfl (Y_lenH rfl rfl el25 rfl) ?_; clear hf; intro a hf
            refine sY hf hs rfl rfl rfl (Y_lss rfl rfl rfl) ?_; clear hf; intro a hf
            refine wpO_nil ?_
            refine wpL_cond hf rfl (fun hb99 => ?_) (fun hb99 => ?_)
            · have hm97 := bif_t hm97 hb99
              refine wpL_skip ?_
              refine wpL_seq ?_
              refine wpL_block0 ?_
              refine wpL_seq ?_
              refine wpL_draw (by kernel_rfl) (by kernel_rfl) hs ?_
              refine qY hf rfl rfl rfl (Y_move rfl rfl) ?_; clear hf; intro a hf
              refine qY hf rfl rfl rfl (Y_move rfl rfl) ?_; clear hf; intro a hf
              refine qY hf rfl rfl rfl (Y_move rfl rfl) ?_; clear hf; intro a hf
              obtain ⟨q100, hi101, hm97⟩ := bind_some hm97
              obtain ⟨hi101a, hi101b, hi101q⟩ := idx_some hi101
              refine qY hf rfl rfl rfl (Y_index rfl rfl rfl el25 ti95 (Rd.isAt (h_p1_1.at hs) (recs_at (s := 3) GBond.len hi101q (j := 0) rfl)) hi101a hi101b) ?_; clear hf; intro a hf
              refine qY hf rfl rfl rfl (Y_fieldAddrE rfl rfl fo95_1) ?_; clear hf; intro a hf
              refine qY hf rfl rfl rfl (Y_load_rd rfl rfl (fun w hs => h_p1_1.at hs) (recs_at (s := 3) GBond.len hi101q (j := 1) rfl) ag2) ?_; clear hf; intro a hf
              obtain ⟨q102, hi103, hm97⟩ := bind_some hm97
              obtain ⟨hi103a, hi103b, hi103q⟩ := idx_some hi103
              refine qY hf rfl rfl rfl (Y_index rfl rfl rfl el28 ti2 (Rd.isAt (h_p2_1.at hs) (at1 (ints_at hi103q))) hi103a hi103b) ?_; clear hf; intro a hf
              refine qY hf rfl rfl rfl (Y_load_rd rfl rfl (fun w hs => h_p2_1.at hs) (at1 (ints_at hi103q)) ag2) ?_; clear hf; intro a hf
              refine qY hf rfl rfl rfl (Y_move rfl rfl) ?_; clear hf; intro a hf
              refine qY hf rfl rfl rfl (Y_move rfl rfl) ?_; clear hf; intro a hf
              refine qY hf rfl rfl rfl (Y_move rfl rfl) ?_; clear hf; intro a hf
              obtain ⟨q104, hi105, hm97⟩ := bind_some hm97
              obtain ⟨hi105a, hi105b, hi105q⟩ := idx_some hi105
              refine qY hf rfl rfl rfl (Y_index rfl rfl rfl el25 ti95 (Rd.isAt (h_p1_1.at hs) (recs_at (s := 3) GBond.len hi105q (j := 0) rfl)) hi105a hi105b) ?_; clear hf; intro a hf
              refine qY hf rfl rfl rfl (Y_fieldAddrE rfl rfl fo95_0) ?_; clear hf; intro a hf
              refine qY hf rfl rfl rfl (Y_load_rd rfl rfl (fun w hs => h_p1_1.at hs) (recs_at (s := 3) GBond.len hi105q (j := 0) rfl) ag2) ?_; clear hf; intro a hf
              obtain ⟨q106, hi107, hm97⟩ := bind_some hm97
              obtain ⟨hi107a, hi107b, hi107q⟩ := idx_some hi107
              refine qY hf rfl rfl rfl (Y_index rfl rfl rfl el28 ti2 (Rd.isAt (h_p2_1.at hs) (at1 (ints_at hi107q))) hi107a hi107b) ?_; clear hf; intro a hf
              refine qY hf rfl rfl rfl (Y_load_rd rfl rfl (fun w hs => h_p2_1.at hs) (at1 (ints_at hi107q)) ag2) ?_; clear hf; intro a hf
              refine qY hf rfl rfl rfl (Y_sub rfl rfl rfl) ?_; clear hf; intro a hf
              refine qY hf rfl rfl rfl (Y_move rfl rfl) ?_; clear hf; intro a hf
              refine qY hf rfl rfl rfl (Y_move rfl rfl) ?_; clear hf; intro a hf
              obtain ⟨q108, hi109, hm97⟩ := bind_some hm97
              obtain ⟨hi109a, hi109b, hi109q⟩ := idx_some hi109
              refine qY hf rfl rfl rfl (Y_index rfl rfl rfl el25 ti95 (Rd.isAt (h_p1_1.at hs) (recs_at (s := 3) GBond.len hi109q (j := 0) rfl)) hi109a hi109b) ?_; clear hf; intro a hf
              refine qY hf rfl rfl rfl (Y_fieldAddrE rfl rfl fo95_2) ?_; clear hf; intro a hf
              refine qY hf rfl rfl rfl (Y_load_rd rfl rfl (fun w hs => h_p1_1.at hs) (recs_at (s := 3) GBond.len hi109q (j := 2) rfl) ag2) ?_; clear hf; intro a hf
              refine qY hf rfl rfl rfl (Y_lss rfl rfl rfl) ?_; clear hf; intro a hf
              refine qNil ?_; clear hs; intro w hs
              refine wpL_cond hf rfl (fun hb110 => ?_) (fun hb110 => ?_)
              · have hm97 := bif_t hm97 hb110
                refine wpL_seq ?_
                refine wpL_region ?_
                refine sY hf hs rfl rfl rfl (Y_assign rfl rfl) ?_; clear hf; intro a hf
                refine wpO_nil ?_
                obtain rfl := Option.some.inj hm97
                try dsimp only at hm
                obtain rfl := Option.some.inj hm
                refine wpL_ret (Qb_ret (Ql_ret (Qb_ret (ret_tmp rfl hf rfl ?_))))
                exact ⟨_, rfl, rfl, hs⟩
              · have hm97 := bif_f hm97 hb110
                refine wpL_skip ?_
                refine wpL_nil (Qb_normal ?_)
                refine wpL_region ?_
                refine sY hf hs rfl rfl rfl (Y_move rfl rfl) ?_; clear hf; intro a hf
                refine sY hf hs rfl rfl rfl (Y_add rfl rfl rfl) ?_; clear hf; intro a hf
                refine sY hf hs rfl rfl rfl (Y_assign rfl rfl) ?_; clear hf; intro a hf
                refine wpO_nil ?_
                refine wpL_nil (Ql_normal ?_)
                exact ⟨(IntKind.i64.wrap (x82 + 1)), hm97, (FrD.pick (FrD.pick (FrD.pick hf.none hf rfl) hf rfl) hf rfl), hs⟩
            · have hm97 := bif_f hm97 hb99
              refine wpL_exit (Ql_exit (Qb_exit ?_))
              exact ⟨Option.some.inj hm97, hf.none, hs⟩
        · rintro a w ⟨hr_, hf, hs⟩
          subst hr_
          try dsimp only at hm
          refine wpL_seq ?_
          refine wpL_region ?_
          refine sY hf hs rfl rfl rfl (Y_assign rfl rfl) ?_; clear hf; intro a hf
          refine wpO_nil ?_
          obtain rfl := Option.some.inj hm
          refine wpL_ret (ret_tmp rfl hf rfl ?_)
          exact ⟨_, rfl, rfl, hs⟩

end Go.Proofs.Ytebmlphobgaboab
