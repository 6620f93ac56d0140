/- The functions do what their models say. -/
import Derived.Test.YtpmebacdmilecaaCriticalFiringsLifted2
import Derived.Test.YtpmebacdmilecaaRows
namespace Go.Proofs.Ytpmebacdmilecaa
open Go.RowKit

set_option maxRecDepth 100000 in
theorem impl_cloneMatrix_ok (F : Nat) (p0_a : List (List Int)) (A_p0_a_1 : Option Addr) (n_p0_a_1 c_p0_a_1 : Nat) (hn_p0_a_1 : n_p0_a_1 = p0_a.length) (r : List (List Int)) (W : World) (hm : impl_cloneMatrix F p0_a = some r) (h_p0_a_1 : RdM W A_p0_a_1 p0_a) :
    Calls Try.prog 140 [.slice A_p0_a_1 n_p0_a_1 c_p0_a_1].toArray W fun e w' => ∃ v, e = .returned v ∧ ∃ A125, ∃ n126, ∃ c127, ∃ vs129, v = .slice A125 n126 c127 ∧ n126 = r.length ∧ St [] W w' [.mat A125 n126 c127 23 2 vs129 r] := by
  subst hn_p0_a_1
  unfold impl_cloneMatrix at hm
  refine Calls.enter (N := 23) Try.func140 rfl rfl rfl (fun a hf => ?_)
  have hs := St.start W
  obtain ⟨w, hw_⟩ : ∃ w, w = W := ⟨W, rfl⟩
  clear hw_ w
  refine wpL_seq ?_
  refine wpL_region ?_
  refine sY hf hs rfl rfl rfl (Y_assign rfl rfl) ?_; clear hf; intro a hf
  refine wpO_nil ?_
  refine wpL_seq ?_
  refine wpL_region ?_
  refine sY hf hs rfl rfl rfl (Y_move rfl rfl) ?_; clear hf; intro a hf
  refine sY hf hs rfl rfl rfl (Y_lenH rfl rfl el46 rfl) ?_; clear hf; intro a hf
  obtain ⟨ms3, hk2, hm⟩ := bind_some hm
  refine sMakeM 2 hf hs rfl rfl rfl rfl rfl hk2 el46 ti23 rfl ?_; clear hf hs; intro a w A1 vs4 hs hf
  have hs : St [] W w [.mat A1 ms3.length ms3.length 23 2 vs4 ms3] := hs
  refine sY hf hs rfl rfl rfl (Y_assign rfl rfl) ?_; clear hf; intro a hf
  refine wpO_nil ?_
  refine wpL_seq ?_
  refine wpL_seq ?_
  refine wpL_region ?_
  refine sY hf hs rfl rfl rfl (Y_move rfl rfl) ?_; clear hf; intro a hf
  refine sY hf hs rfl rfl rfl (Y_lenH rfl rfl el46 rfl) ?_; clear hf; intro a hf
  refine sY hf hs rfl rfl rfl (Y_move rfl rfl) ?_; clear hf; intro a hf
  refine wpO_nil ?_
  obtain ⟨r97, hl98, hm⟩ := bind_some hm
  refine wpL_block (fun a w => ∃ ms91 : List (List Int), ∃ A92, ∃ n93, ∃ c94, ∃ vs96, ms91 = r97 ∧ n93 = ms91.length ∧ Fr a 23 [(3, .slice A92 n93 c94)] ∧ St [] W w [.mat A92 n93 c94 23 2 vs96 ms91]) ?_ ?_
  · refine wpL_loop (fun n a w => ∃ ms60 : List (List Int), ∃ x66 : Int, ∃ A61, ∃ n62, ∃ c63, ∃ vs65, impl_cloneMatrix_L1 F p0_a n ms60 x66 = some r97 ∧ n62 = ms60.length ∧ Fr a 23 [(3, .slice A61 n62 c63), (9, .slice A_p0_a_1 p0_a.length c_p0_a_1), (10, .int .i64 (p0_a.length : Int)), (11, .int .i64 x66)] ∧ St [] W w [.mat A61 n62 c63 23 2 vs65 ms60]) F ?_ ?_ ?_
    · exact ⟨ms3, 0, A1, ms3.length, ms3.length, vs4, hl98, rfl, (FrD.pick (FrD.pick (FrD.pick (FrD.pick hf.none hf rfl) hf rfl) hf rfl) hf rfl), hs⟩
    · rintro a w ⟨ms60, x66, A61, n62, c63, vs65, h0_, -, -, -⟩; simp [impl_cloneMatrix_L1] at h0_
    · rintro n100 a w ⟨ms60, x66, A61, n62, c63, vs65, hm99, hn64, hf, hs⟩
      rw [impl_cloneMatrix_L1] at hm99
      refine wpL_seq ?_
      refine wpL_region ?_
      refine sY hf hs rfl rfl rfl (Y_lss rfl rfl rfl) ?_; clear hf; intro a hf
      refine wpO_nil ?_
      refine wpL_seq ?_
      refine wpL_cond hf rfl (fun hb101 => ?_) (fun hb101 => ?_)
      · have hm99 := bif_t hm99 hb101
        refine wpL_skip ?_
        refine wpL_seq ?_
        refine wpL_block0 ?_
        refine wpL_seq ?_
        refine wpL_region ?_
        refine sY hf hs rfl rfl rfl (Y_move rfl rfl) ?_; clear hf; intro a hf
        obtain ⟨q102, hi103, hm99⟩ := bind_some hm99
        obtain ⟨hi103a, hi103b, hi103q⟩ := idx_some hi103
        obtain ⟨vs104, hv105, hr106⟩ := id h_p0_a_1
        obtain ⟨A107, c108, hv109, hR110⟩ := hr106 _ _ hi103q
        refine sY hf hs rfl rfl rfl (Y_index rfl rfl rfl el46 ti23 (Rd.isAt hv105 hv109) hi103a hi103b) ?_; clear hf; intro a hf
        refine sY hf hs rfl rfl rfl (Y_load_rd rfl rfl (fun w hs => hv105.at hs) (at1 hv109) ag23) ?_; clear hf; intro a hf
        refine sY hf hs rfl rfl rfl (Y_assign rfl rfl) ?_; clear hf; intro a hf
        refine sY hf hs rfl rfl rfl (Y_assign rfl rfl) ?_; clear hf; intro a hf
        refine wpO_nil ?_
        refine wpL_region ?_
        refine sY hf hs rfl rfl rfl (Y_move rfl rfl) ?_; clear hf; intro a hf
        refine sY hf hs rfl rfl rfl (Y_move rfl rfl) ?_; clear hf; intro a hf
        refine sY hf hs rfl rfl rfl (Y_move rfl rfl) ?_; clear hf; intro a hf
        obtain ⟨r111, hc112, hm99⟩ := bind_some hm99
        refine sCall hf rfl rfl rfl rfl (cap := []) rfl rfl en71 (slices_Clone_int64_ok F q102 A107 q102.length c108 rfl _ _ hc112 (hR110.at hs)) ?_; clear hf
        rintro _ w ⟨A113, n114, c115, rfl, hn116, hs1⟩ a hf
        have hs : St [] W w [.mat A61 n62 c63 23 2 vs65 ms60, .row A113 n114 c115 2 1 (ints r111)] := hs.join hs1
        clear hs1
        obtain ⟨q117, hi118, hm99⟩ := bind_some hm99
        obtain ⟨hi118a, hi118b, hi118q⟩ := idx_some hi118
        obtain ⟨A119, c120, hv121⟩ := hs.matRow (i := 0) rfl hi118q
        refine sY hf hs rfl rfl rfl (Y_index rfl rfl rfl el46 ti23 (Rd.isAt (hs.rdV (i := 0) rfl) hv121) hi118a (ltn hn64 hi118b)) ?_; clear hf; intro a hf
        obtain ⟨ms122, hu123, hm99⟩ := bind_some hm99
        refine sStoreRowM (i := 0) (j := 1) (k := x66) hf hs rfl rfl rfl rfl rfl rfl rfl (by decide) hn116 hu123 ti23 ?_; clear hs; intro w vs124 hs
        have hs : St [] W w [.mat A61 n62 c63 23 2 vs124 ms122] := hs
        refine wpO_nil ?_
        refine wpL_nil (Qb_normal ?_)
        refine wpL_region ?_
        refine sY hf hs rfl rfl rfl (Y_add rfl rfl rfl) ?_; clear hf; intro a hf
        refine sY hf hs rfl rfl rfl (Y_move rfl rfl) ?_; clear hf; intro a hf
        refine wpO_nil ?_
        refine wpL_nil (Ql_normal ?_)
        exact ⟨ms122, (IntKind.i64.wrap (x66 + 1)), A61, n62, c63, vs124, hm99, ((hn64).trans (upd_len hu123).symm), (FrD.pick (FrD.pick (FrD.pick (FrD.pick hf.none hf rfl) hf rfl) hf rfl) hf rfl), hs⟩
      · have hm99 := bif_f hm99 hb101
        refine wpL_exit (Ql_exit (Qb_exit ?_))
        exact ⟨ms60, A61, n62, c63, vs65, Option.some.inj hm99, hn64, (FrD.pick hf.none hf rfl), hs⟩
  · rintro a w ⟨ms91, A92, n93, c94, vs96, hr_, hn95, hf, hs⟩
    subst hr_
    try dsimp only at hm
    refine wpL_seq ?_
    refine wpL_region ?_
    refine sY hf hs rfl rfl rfl (Y_move rfl rfl) ?_; clear hf; intro a hf
    refine sY hf hs rfl rfl rfl (Y_assign rfl rfl) ?_; clear hf; intro a hf
    refine wpO_nil ?_
    obtain rfl := Option.some.inj hm
    refine wpL_ret (ret_tmp rfl hf rfl ?_)
    exact ⟨_, rfl, A92, n93, c94, vs96, rfl, hn95, hs⟩

set_option maxHeartbeats 2000000 in
set_option maxRecDepth 100000 in
theorem impl_latestTimes_ok (F : Nat) (p0 : GEventGraph) (A_p0_1 : Option Addr) (n_p0_1 c_p0_1 : Nat) (hn_p0_1 : n_p0_1 = p0.Places.length) (p1 : List (List Int)) (A_p1_1 : Option Addr) (n_p1_1 c_p1_1 : Nat) (hn_p1_1 : n_p1_1 = p1.length) (r : List (List Int)) (W : World) (hm : impl_latestTimes F p0 p1 = some r) (h_p0_1 : Rd W A_p0_1 ((recs GPlace.cells) p0.Places)) (h_p1_1 : RdM W A_p1_1 p1) :
    Calls Try.prog 127 [.agg #[.int .i64 p0.Events, .slice A_p0_1 n_p0_1 c_p0_1], .slice A_p1_1 n_p1_1 c_p1_1].toArray W fun e w' => ∃ v, e = .returned v ∧ ∃ A2003, ∃ n2004, ∃ c2005, ∃ vs2007, v = .slice A2003 n2004 c2005 ∧ n2004 = r.length ∧ St [] W w' [.mat A2003 n2004 c2005 23 2 vs2007 r] := by
  subst hn_p0_1
  subst hn_p1_1
  unfold impl_latestTimes at hm
  refine Calls.enterM (N := 83) Try.func127 rfl rfl rfl (fun a hf => ?_)
  have hs := St.start W
  obtain ⟨w, hw_⟩ : ∃ w, w = W := ⟨W, rfl⟩
  clear hw_ w
  have hs : St [] W W [.mks []] := hs.addMks
  refine wpL_seq ?_
  refine wpL_region ?_
  refine sBox hf hs rfl rfl rfl rfl rfl (cs := [.int .i64 p0.Events, .slice A_p0_1 p0.Places.length c_p0_1]) rfl ?_; clear hf hs; intro a w b1 hs hf
  have hs : St [] W w [.mks [], .blk b1 39 [.int .i64 p0.Events, .slice A_p0_1 p0.Places.length c_p0_1]] := hs
  refine sY hf hs rfl rfl rfl (Y_assign rfl rfl) ?_; clear hf; intro a hf
  refine wpO_nil ?_
  refine wpL_seq ?_
  refine wpL_region ?_
  refine sY hf hs rfl rfl rfl (Y_load_blkS rfl rfl (i := 1) rfl ag39 ti39 rfl) ?_; clear hf; intro a hf
  obtain ⟨r2, hc3, hm⟩ := bind_some hm
  refine sCall hf rfl rfl rfl rfl (cap := []) rfl rfl en173 (impl_firingOrder_ok F p0 A_p0_1 p0.Places.length c_p0_1 rfl _ _ hc3 (h_p0_1.at hs)) ?_; clear hf
  rintro _ w ⟨A4, n5, c6, rfl, hn7, hs1⟩ a hf
  have hs : St [] W w [.mks [], .blk b1 39 [.int .i64 p0.Events, .slice A_p0_1 p0.Places.length c_p0_1], .row A4 n5 c6 2 1 (ints r2.1)] := hs.join hs1
  clear hs1
  refine sY hf hs rfl rfl rfl (Y_move rfl rfl) ?_; clear hf; intro a hf
  refine sY hf hs rfl rfl rfl (Y_extract rfl rfl rfl) ?_; clear hf; intro a hf
  refine sY hf hs rfl rfl rfl (Y_extract rfl rfl rfl) ?_; clear hf; intro a hf
  refine sY hf hs rfl rfl rfl (Y_assign rfl rfl) ?_; clear hf; intro a hf
  refine sY hf hs rfl rfl rfl (Y_assign rfl rfl) ?_; clear hf; intro a hf
  refine wpO_nil ?_
  refine wpL_seq ?_
  refine wpL_region ?_
  refine sY hf hs rfl rfl rfl (Y_move rfl rfl) ?_; clear hf; intro a hf
  obtain ⟨r8, hc9, hm⟩ := bind_some hm
  refine sCall hf rfl rfl rfl rfl (cap := []) rfl rfl en140 (impl_cloneMatrix_ok F p1 A_p1_1 p1.length c_p1_1 rfl _ _ hc9 (h_p1_1.at hs)) ?_; clear hf
  rintro _ w ⟨A10, n11, c12, vs14, rfl, hn13, hs1⟩ a hf
  have hs : St [] W w [.mks [], .blk b1 39 [.int .i64 p0.Events, .slice A_p0_1 p0.Places.length c_p0_1], .row A4 n5 c6 2 1 (ints r2.1), .mat A10 n11 c12 23 2 vs14 r8] := hs.join hs1
  clear hs1
  refine sAlloc hf hs rfl rfl rfl rfl ti46 ?_; clear hf hs; intro a w b15 hs hf
  have hs : St [] W w [.mks [], .blk b1 39 [.int .i64 p0.Events, .slice A_p0_1 p0.Places.length c_p0_1], .row A4 n5 c6 2 1 (ints r2.1), .mat A10 n11 c12 23 2 vs14 r8, .blk b15 46 [.slice none 0 0]] := hs
  refine sStore (i := 4) (us := [.slice A10 n11 c12]) hf hs rfl rfl rfl rfl rfl rfl ti46 rfl rfl rfl (Nat.le_of_ble_eq_true rfl) rfl ?_; clear hs; intro w hs
  have hs : St [] W w [.mks [], .blk b1 39 [.int .i64 p0.Events, .slice A_p0_1 p0.Places.length c_p0_1], .row A4 n5 c6 2 1 (ints r2.1), .mat A10 n11 c12 23 2 vs14 r8, .blk b15 46 [.slice A10 n11 c12]] := hs
  refine wpO_nil ?_
  refine wpL_seq ?_
  refine wpL_region ?_
  refine sY hf hs rfl rfl rfl (Y_move rfl rfl) ?_; clear hf; intro a hf
  refine sY hf hs rfl rfl rfl (Y_lenH rfl rfl el46 rfl) ?_; clear hf; intro a hf
  refine sAlloc hf hs rfl rfl rfl rfl ti2 ?_; clear hf hs; intro a w b16 hs hf
  have hs : St [] W w [.mks [], .blk b1 39 [.int .i64 p0.Events, .slice A_p0_1 p0.Places.length c_p0_1], .row A4 n5 c6 2 1 (ints r2.1), .mat A10 n11 c12 23 2 vs14 r8, .blk b15 46 [.slice A10 n11 c12], .blk b16 2 [.int .i64 0]] := hs
  refine sStore (i := 5) (us := [.int .i64 (p1.length : Int)]) hf hs rfl rfl rfl rfl rfl rfl ti2 rfl rfl rfl (Nat.le_of_ble_eq_true rfl) rfl ?_; clear hs; intro w hs
  have hs : St [] W w [.mks [], .blk b1 39 [.int .i64 p0.Events, .slice A_p0_1 p0.Places.length c_p0_1], .row A4 n5 c6 2 1 (ints r2.1), .mat A10 n11 c12 23 2 vs14 r8, .blk b15 46 [.slice A10 n11 c12], .blk b16 2 [.int .i64 (p1.length : Int)]] := hs
  refine wpO_nil ?_
  refine wpL_seq ?_
  refine wpL_seq ?_
  refine wpL_region ?_
  refine sY hf hs rfl rfl rfl (Y_load_blk rfl rfl (i := 5) rfl rfl ag2) ?_; clear hf; intro a hf
  refine sY hf hs rfl rfl rfl (Y_sub rfl rfl rfl) ?_; clear hf; intro a hf
  refine sAlloc hf hs rfl rfl rfl rfl ti2 ?_; clear hf hs; intro a w b17 hs hf
  have hs : St [] W w [.mks [], .blk b1 39 [.int .i64 p0.Events, .slice A_p0_1 p0.Places.length c_p0_1], .row A4 n5 c6 2 1 (ints r2.1), .mat A10 n11 c12 23 2 vs14 r8, .blk b15 46 [.slice A10 n11 c12], .blk b16 2 [.int .i64 (p1.length : Int)], .blk b17 2 [.int .i64 0]] := hs
  refine sStore (i := 6) (us := [.int .i64 (IntKind.i64.wrap ((p1.length : Int) - 1))]) hf hs rfl rfl rfl rfl rfl rfl ti2 rfl rfl rfl (Nat.le_of_ble_eq_true rfl) rfl ?_; clear hs; intro w hs
  have hs : St [] W w [.mks [], .blk b1 39 [.int .i64 p0.Events, .slice A_p0_1 p0.Places.length c_p0_1], .row A4 n5 c6 2 1 (ints r2.1), .mat A10 n11 c12 23 2 vs14 r8, .blk b15 46 [.slice A10 n11 c12], .blk b16 2 [.int .i64 (p1.length : Int)], .blk b17 2 [.int .i64 (IntKind.i64.wrap ((p1.length : Int) - 1))]] := hs
  refine wpO_nil ?_
  obtain ⟨r1507, hl1508, hm⟩ := bind_some hm
  refine wpL_block (fun a w => ∃ ms1505 : List (List Int), ∃ bs1504 : List Nat, ms1505 = r1507 ∧ n11 = ms1505.length ∧ FrD (mkd bs1504) a 83 [(7, .pointer (some ⟨b15, 0, none⟩))] ∧ St [] W w [.mks bs1504, .blk b15 46 [.slice A10 n11 c12], .mat A10 n11 c12 23 2 vs14 ms1505]) ?_ ?_
  · refine wpL_loop (fun n a w => ∃ ms1008 : List (List Int), ∃ x1011 : Int, ∃ bs1007 : List Nat, ∃ b1010, impl_latestTimes_L13 F p0 p1 r2 n ms1008 x1011 = some r1507 ∧ n11 = ms1008.length ∧ FrD (mkd bs1007) a 83 [(2, .pointer (some ⟨b1, 0, none⟩)), (5, .slice A4 n5 c6), (7, .pointer (some ⟨b15, 0, none⟩)), (8, .pointer (some ⟨b16, 0, none⟩)), (9, .pointer (some ⟨b1010, 0, none⟩))] ∧ St [] W w [.mks bs1007, .blk b1 39 [.int .i64 p0.Events, .slice A_p0_1 p0.Places.length c_p0_1], .row A4 n5 c6 2 1 (ints r2.1), .blk b15 46 [.slice A10 n11 c12], .mat A10 n11 c12 23 2 vs14 ms1008, .blk b16 2 [.int .i64 (p1.length : Int)], .blk b1010 2 [.int .i64 x1011]]) F ?_ ?_ ?_
    · exact ⟨r8, (IntKind.i64.wrap ((p1.length : Int) - 1)), [], b17, hl1508, hn13, (FrD.pick (FrD.pick (FrD.pick (FrD.pick (FrD.pick hf.none hf rfl) hf rfl) hf rfl) hf rfl) hf rfl), hs.sel [0, 1, 2, 4, 3, 5, 6] (by decide)⟩
    · rintro a w ⟨ms1008, x1011, bs1007, b1010, h0_, -, -, -⟩; simp [impl_latestTimes_L13] at h0_
    · rintro n1510 a w ⟨ms1008, x1011, bs1007, b1010, hm1509, hn1009, hf, hs⟩
      rw [impl_latestTimes_L13] at hm1509
      refine wpL_seq ?_
      refine wpL_seq ?_
      refine wpL_region ?_
      refine sY hf hs rfl rfl rfl (Y_load_blk rfl rfl (i := 6) rfl rfl ag2) ?_; clear hf; intro a hf
      refine sY hf hs rfl rfl rfl (Y_geq rfl rfl rfl) ?_; clear hf; intro a hf
      refine wpO_nil ?_
      refine wpL_cond hf rfl (fun hb1511 => ?_) (fun hb1511 => ?_)
      · have hm1509 := bif_t hm1509 hb1511
        refine wpL_skip ?_
        refine wpL_seq ?_
        refine wpL_block0 ?_
        refine wpL_seq ?_
        refine wpL_region ?_
        refine sY hf hs rfl rfl rfl (Y_move rfl rfl) ?_; clear hf; intro a hf
        refine sCall hf rfl rfl rfl rfl rfl rfl (cap := []) bk_en0 (backward_ok A4 n5 c6 _) ?_; clear hf; rintro _ w ⟨b1512, rfl, hs1⟩ a hf
        have hs : St [] W w [.mks bs1007, .blk b1 39 [.int .i64 p0.Events, .slice A_p0_1 p0.Places.length c_p0_1], .row A4 n5 c6 2 1 (ints r2.1), .blk b15 46 [.slice A10 n11 c12], .mat A10 n11 c12 23 2 vs14 ms1008, .blk b16 2 [.int .i64 (p1.length : Int)], .blk b1010 2 [.int .i64 x1011], .blk b1512 23 [.slice A4 n5 c6]] := hs.join hs1
        clear hs1
        refine wpO_nil ?_
        refine wpL_block0 ?_
        obtain ⟨r1838, hl1839, hm1509⟩ := bind_some hm1509
        refine wpL_range (La := [.mks bs1007, .row A4 n5 c6 2 1 (ints r2.1), .blk b1512 23 [.slice A4 n5 c6]]) (L0 := [.blk b1010 2 [.int .i64 x1011], .blk b16 2 [.int .i64 (p1.length : Int)], .blk b15 46 [.slice A10 n11 c12], .mat A10 n11 c12 23 2 vs14 ms1008, .blk b1 39 [.int .i64 p0.Events, .slice A_p0_1 p0.Places.length c_p0_1]]) (xs := r2.1) (ib := 2) (ir := 1) (im := 0) (fun x1513 => [(2, .pointer (some ⟨b1, 0, none⟩)), (7, .pointer (some ⟨b15, 0, none⟩)), (8, .pointer (some ⟨b16, 0, none⟩)), (9, .pointer (some ⟨b1010, 0, none⟩)), (11, .int .i64 x1513.2)]) (fun pre_ L_ => ∃ rest_, pre_ ++ rest_ = revE r2.1 ∧ ∃ ms1836 : List (List Int), impl_latestTimes_R16 F p0 p1 x1011 rest_ ms1836 = some r1838 ∧ n11 = ms1836.length ∧ L_ = [.blk b1010 2 [.int .i64 x1011], .blk b16 2 [.int .i64 (p1.length : Int)], .blk b15 46 [.slice A10 n11 c12], .mat A10 n11 c12 23 2 vs14 ms1836, .blk b1 39 [.int .i64 p0.Events, .slice A_p0_1 p0.Places.length c_p0_1]]) back_ok hf (hs.sel [0, 2, 7, 6, 5, 3, 4, 1] (by decide)) rfl bk_en rfl rfl hn7 rfl rfl (by rintro _ _ ⟨_, _, _, _, _, rfl⟩; rfl) ⟨_, rfl, ms1008, hl1839, hn1009, rfl⟩ rfl rfl ?_ ?_ ?_
        · intro lp_ x1513 a w hf
          have hs := St.start w
          refine wpR_region rfl ?_
          refine sY hf hs rfl rfl rfl (Y_assign rfl rfl) ?_; clear hf; intro a hf
          refine wpO_nil ?_
          exact wpR_nil ⟨rfl, rfl, (FrD.pick (FrD.pick (FrD.pick (FrD.pick (FrD.pick hf.none hf rfl) hf rfl) hf rfl) hf rfl) hf rfl)⟩
        · rintro lp_ pre_ x1513 rest_ _ W a ⟨rest2_, hr2_, ms1836, hm1840, hn1837, rfl⟩ hpre_ hs0_ hf
          obtain rfl := List.append_cancel_left (hr2_.trans hpre_.symm)
          clear hr2_
          rw [impl_latestTimes_R16] at hm1840
          have h_p0_1 := h_p0_1.pass hs0_ [3, 4, 5, 6, 7]
          have hs : St (muL [.blk b1010 2 [.int .i64 x1011], .blk b16 2 [.int .i64 (p1.length : Int)], .blk b15 46 [.slice A10 n11 c12], .mat A10 n11 c12 23 2 vs14 ms1836, .blk b1 39 [.int .i64 p0.Events, .slice A_p0_1 p0.Places.length c_p0_1]]) W W [.blk b1010 2 [.int .i64 x1011], .blk b16 2 [.int .i64 (p1.length : Int)], .blk b15 46 [.slice A10 n11 c12], .mat A10 n11 c12 23 2 vs14 ms1836, .blk b1 39 [.int .i64 p0.Events, .slice A_p0_1 p0.Places.length c_p0_1]] := (hs0_.sel [3, 4, 5, 6, 7] (by decide)).rebase
          refine wpR_block0 ?_
          refine wpR_seq ?_
          refine wpR_region rfl ?_
          refine sY hf hs rfl rfl rfl (Y_fieldAddr rfl rfl fo39_1) ?_; clear hf; intro a hf
          refine sY hf hs rfl rfl rfl (Y_load_blk rfl rfl (i := 4) rfl rfl ag37) ?_; clear hf; intro a hf
          refine sY hf hs rfl rfl rfl (Y_lenH rfl rfl el37 rfl) ?_; clear hf; intro a hf
          refine sY hf hs rfl rfl rfl (Y_move rfl rfl) ?_; clear hf; intro a hf
          refine wpO_nil ?_
          obtain ⟨r1960, hl1961, hm1840⟩ := bind_some hm1840
          refine wpR_block (fun a w => ∃ ms1958 : List (List Int), ms1958 = r1960 ∧ n11 = ms1958.length ∧ Fr a 83 [] ∧ St (muL [.blk b1010 2 [.int .i64 x1011], .blk b16 2 [.int .i64 (p1.length : Int)], .blk b15 46 [.slice A10 n11 c12], .mat A10 n11 c12 23 2 vs14 ms1836, .blk b1 39 [.int .i64 p0.Events, .slice A_p0_1 p0.Places.length c_p0_1]]) W w [.blk b1010 2 [.int .i64 x1011], .blk b16 2 [.int .i64 (p1.length : Int)], .blk b15 46 [.slice A10 n11 c12], .mat A10 n11 c12 23 2 vs14 ms1958, .blk b1 39 [.int .i64 p0.Events, .slice A_p0_1 p0.Places.length c_p0_1]]) ?_ ?_
          · refine wpR_loop (fun n a w => ∃ ms1918 : List (List Int), ∃ x1920 : Int, impl_latestTimes_L17 F p0 p1 x1011 x1513 n ms1918 x1920 = some r1960 ∧ n11 = ms1918.length ∧ Fr a 83 [(7, .pointer (some ⟨b15, 0, none⟩)), (8, .pointer (some ⟨b16, 0, none⟩)), (9, .pointer (some ⟨b1010, 0, none⟩)), (11, .int .i64 x1513.2), (34, .slice A_p0_1 p0.Places.length c_p0_1), (35, .int .i64 (p0.Places.length : Int)), (36, .int .i64 x1920)] ∧ St (muL [.blk b1010 2 [.int .i64 x1011], .blk b16 2 [.int .i64 (p1.length : Int)], .blk b15 46 [.slice A10 n11 c12], .mat A10 n11 c12 23 2 vs14 ms1836, .blk b1 39 [.int .i64 p0.Events, .slice A_p0_1 p0.Places.length c_p0_1]]) W w [.blk b1010 2 [.int .i64 x1011], .blk b16 2 [.int .i64 (p1.length : Int)], .blk b15 46 [.slice A10 n11 c12], .mat A10 n11 c12 23 2 vs14 ms1918, .blk b1 39 [.int .i64 p0.Events, .slice A_p0_1 p0.Places.length c_p0_1]]) F ?_ ?_ ?_
            · exact ⟨ms1836, 0, hl1961, hn1837, (FrD.pick (FrD.pick (FrD.pick (FrD.pick (FrD.pick (FrD.pick (FrD.pick hf.none hf rfl) hf rfl) hf rfl) hf rfl) hf rfl) hf rfl) hf rfl), hs⟩
            · rintro a w ⟨ms1918, x1920, h0_, -, -, -⟩; simp [impl_latestTimes_L17] at h0_
            · rintro n1963 a w ⟨ms1918, x1920, hm1962, hn1919, hf, hs⟩
              rw [impl_latestTimes_L17] at hm1962
              refine wpR_seq ?_
              refine wpR_region rfl ?_
              refine sY hf hs rfl rfl rfl (Y_lss rfl rfl rfl) ?_; clear hf; intro a hf
              refine wpO_nil ?_
              refine wpR_seq ?_
              refine wpR_cond hf rfl (fun hb1964 => ?_) (fun hb1964 => ?_)
              · have hm1962 := bif_t hm1962 hb1964
                refine wpR_skip ?_
                refine wpR_seq ?_
                refine wpR_block0 ?_
                refine wpR_seq ?_
                refine wpR_region rfl ?_
                obtain ⟨q1965, hi1966, hm1962⟩ := bind_some hm1962
                obtain ⟨hi1966a, hi1966b, hi1966q⟩ := idx_some hi1966
                refine sY hf hs rfl rfl rfl (Y_index rfl rfl rfl el37 ti96 (Rd.isAt (h_p0_1.at hs) (recs_at (s := 4) GPlace.len hi1966q (j := 0) rfl)) hi1966a hi1966b) ?_; clear hf; intro a hf
                refine sY hf hs rfl rfl rfl (Y_load_rdS rfl rfl (us := [.int .i64 q1965.From, .int .i64 q1965.To, .int .i64 q1965.Delay, .int .i64 q1965.Tokens]) (fun w hs => h_p0_1.at hs) (fun j u hj => recs_at (s := 4) GPlace.len hi1966q hj) (Nat.succ_pos _) ag96 ti96 rfl) ?_; clear hf; intro a hf
                refine sAlloc hf hs rfl rfl rfl rfl ti96 ?_; clear hf hs; intro a w b1967 hs hf
                have hs : St (muL [.blk b1010 2 [.int .i64 x1011], .blk b16 2 [.int .i64 (p1.length : Int)], .blk b15 46 [.slice A10 n11 c12], .mat A10 n11 c12 23 2 vs14 ms1836, .blk b1 39 [.int .i64 p0.Events, .slice A_p0_1 p0.Places.length c_p0_1]]) W w [.blk b1010 2 [.int .i64 x1011], .blk b16 2 [.int .i64 (p1.length : Int)], .blk b15 46 [.slice A10 n11 c12], .mat A10 n11 c12 23 2 vs14 ms1918, .blk b1 39 [.int .i64 p0.Events, .slice A_p0_1 p0.Places.length c_p0_1], .blk b1967 96 [.int .i64 0, .int .i64 0, .int .i64 0, .int .i64 0]] := hs
                refine sStore (i := 5) (us := [.int .i64 q1965.From, .int .i64 q1965.To, .int .i64 q1965.Delay, .int .i64 q1965.Tokens]) hf hs rfl rfl rfl rfl rfl rfl ti96 rfl rfl rfl (Nat.le_of_ble_eq_true rfl) rfl ?_; clear hs; intro w hs
                have hs : St (muL [.blk b1010 2 [.int .i64 x1011], .blk b16 2 [.int .i64 (p1.length : Int)], .blk b15 46 [.slice A10 n11 c12], .mat A10 n11 c12 23 2 vs14 ms1836, .blk b1 39 [.int .i64 p0.Events, .slice A_p0_1 p0.Places.length c_p0_1]]) W w [.blk b1010 2 [.int .i64 x1011], .blk b16 2 [.int .i64 (p1.length : Int)], .blk b15 46 [.slice A10 n11 c12], .mat A10 n11 c12 23 2 vs14 ms1918, .blk b1 39 [.int .i64 p0.Events, .slice A_p0_1 p0.Places.length c_p0_1], .blk b1967 96 [.int .i64 q1965.From, .int .i64 q1965.To, .int .i64 q1965.Delay, .int .i64 q1965.Tokens]] := hs
                refine wpO_nil ?_
                refine wpR_seq ?_
                obtain ⟨r1970, hj1971, hm1962⟩ := bind_some hm1962
                refine wpR_cut (fun a w => ∃ b1969 : Bool, b1969 = r1970 ∧ Fr a 83 [(7, .pointer (some ⟨b15, 0, none⟩)), (8, .pointer (some ⟨b16, 0, none⟩)), (9, .pointer (some ⟨b1010, 0, none⟩)), (11, .int .i64 x1513.2), (13, .pointer (some ⟨b1967, 0, none⟩)), (34, .slice A_p0_1 p0.Places.length c_p0_1), (35, .int .i64 (p0.Places.length : Int)), (36, .int .i64 x1920), (51, .bool b1969)] ∧ St (muL [.blk b1010 2 [.int .i64 x1011], .blk b16 2 [.int .i64 (p1.length : Int)], .blk b15 46 [.slice A10 n11 c12], .mat A10 n11 c12 23 2 vs14 ms1836, .blk b1 39 [.int .i64 p0.Events, .slice A_p0_1 p0.Places.length c_p0_1]]) W w [.blk b1010 2 [.int .i64 x1011], .blk b16 2 [.int .i64 (p1.length : Int)], .blk b15 46 [.slice A10 n11 c12], .mat A10 n11 c12 23 2 vs14 ms1918, .blk b1 39 [.int .i64 p0.Events, .slice A_p0_1 p0.Places.length c_p0_1], .blk b1967 96 [.int .i64 q1965.From, .int .i64 q1965.To, .int .i64 q1965.Delay, .int .i64 q1965.Tokens]]) ?_ ?_
                · refine wpR_region rfl ?_
                  refine sY hf hs rfl rfl rfl (Y_fieldAddr rfl rfl fo96_0) ?_; clear hf; intro a hf
                  refine sY hf hs rfl rfl rfl (Y_load_blk rfl rfl (i := 5) rfl rfl ag2) ?_; clear hf; intro a hf
                  refine sY hf hs rfl rfl rfl (Y_move rfl rfl) ?_; clear hf; intro a hf
                  refine sY hf hs rfl rfl rfl (Y_eql rfl rfl rfl) ?_; clear hf; intro a hf
                  refine sY hf hs rfl rfl rfl (Y_move rfl rfl) ?_; clear hf; intro a hf
                  refine bsplit (q1965.From == x1513.2) (fun hb1972 => ?_) (fun hb1972 => ?_)
                  · have hj1971 := bif_t hj1971 hb1972
                    refine sYg hf hs rfl rfl rfl (congrArg (fun b => some (Value.bool b)) hb1972) rfl rfl rfl (Y_load_blk rfl rfl (i := 0) rfl rfl ag2) ?_; clear hf; intro a hf
                    refine sYg hf hs rfl rfl rfl (congrArg (fun b => some (Value.bool b)) hb1972) rfl rfl rfl (Y_fieldAddr rfl rfl fo96_3) ?_; clear hf; intro a hf
                    refine sYg hf hs rfl rfl rfl (congrArg (fun b => some (Value.bool b)) hb1972) rfl rfl rfl (Y_load_blk rfl rfl (i := 5) rfl rfl ag2) ?_; clear hf; intro a hf
                    refine sYg hf hs rfl rfl rfl (congrArg (fun b => some (Value.bool b)) hb1972) rfl rfl rfl (Y_add rfl rfl rfl) ?_; clear hf; intro a hf
                    refine sYg hf hs rfl rfl rfl (congrArg (fun b => some (Value.bool b)) hb1972) rfl rfl rfl (Y_load_blk rfl rfl (i := 1) rfl rfl ag2) ?_; clear hf; intro a hf
                    refine sYg hf hs rfl rfl rfl (congrArg (fun b => some (Value.bool b)) hb1972) rfl rfl rfl (Y_lss rfl rfl rfl) ?_; clear hf; intro a hf
                    refine sY hf hs rfl rfl rfl (Y_pickT rfl (congrArg (fun b => some (Value.bool b)) hb1972) rfl) ?_; clear hf; intro a hf
                    refine wpO_nil ?_
                    refine wpR_nil (then_normal ?_)
                    exact ⟨(decide ((IntKind.i64.wrap (x1011 + q1965.Tokens)) < (p1.length : Int))), Option.some.inj hj1971, (FrD.pick (FrD.pick (FrD.pick (FrD.pick (FrD.pick (FrD.pick (FrD.pick (FrD.pick (FrD.pick hf.none hf rfl) hf rfl) hf rfl) hf rfl) hf rfl) hf rfl) hf rfl) hf rfl) hf rfl), hs⟩
                  · have hj1971 := bif_f hj1971 hb1972
                    refine sNo hf rfl rfl rfl (congrArg (fun b => some (Value.bool b)) hb1972) rfl rfl rfl ?_; clear hf; intro a hf
                    refine sNo hf rfl rfl rfl (congrArg (fun b => some (Value.bool b)) hb1972) rfl rfl rfl ?_; clear hf; intro a hf
                    refine sNo hf rfl rfl rfl (congrArg (fun b => some (Value.bool b)) hb1972) rfl rfl rfl ?_; clear hf; intro a hf
                    refine sNo hf rfl rfl rfl (congrArg (fun b => some (Value.bool b)) hb1972) rfl rfl rfl ?_; clear hf; intro a hf
                    refine sNo hf rfl rfl rfl (congrArg (fun b => some (Value.bool b)) hb1972) rfl rfl rfl ?_; clear hf; intro a hf
                    refine sNo hf rfl rfl rfl (congrArg (fun b => some (Value.bool b)) hb1972) rfl rfl rfl ?_; clear hf; intro a hf
                    refine sY hf hs rfl rfl rfl (Y_pickF rfl (congrArg (fun b => some (Value.bool b)) hb1972) rfl) ?_; clear hf; intro a hf
                    refine wpO_nil ?_
                    refine wpR_nil (then_normal ?_)
                    exact ⟨false, Option.some.inj hj1971, (FrD.pick (FrD.pick (FrD.pick (FrD.pick (FrD.pick (FrD.pick (FrD.pick (FrD.pick (FrD.pick hf.none hf rfl) hf rfl) hf rfl) hf rfl) hf rfl) hf rfl) hf rfl) hf rfl) hf rfl), hs⟩
                · rintro a w ⟨b1969, hr_, hf, hs⟩
                  subst hr_
                  try dsimp only at hm1962
                  refine wpR_cond hf rfl (fun hb1973 => ?_) (fun hb1973 => ?_)
                  · have hm1962 := bif_t hm1962 hb1973
                    refine wpR_drawM [.blk b1010 2 [.int .i64 x1011], .blk b16 2 [.int .i64 (p1.length : Int)], .blk b15 46 [.slice A10 n11 c12], .mat A10 n11 c12 23 2 vs14 ms1918, .blk b1 39 [.int .i64 p0.Events, .slice A_p0_1 p0.Places.length c_p0_1], .blk b1967 96 [.int .i64 q1965.From, .int .i64 q1965.To, .int .i64 q1965.Delay, .int .i64 q1965.Tokens]] [28] rfl (by kernel_rfl) hs ?_; clear hs; intro w hs
                    have hs0 : St (muL [.blk b1010 2 [.int .i64 x1011], .blk b16 2 [.int .i64 (p1.length : Int)], .blk b15 46 [.slice A10 n11 c12], .mat A10 n11 c12 23 2 vs14 ms1836, .blk b1 39 [.int .i64 p0.Events, .slice A_p0_1 p0.Places.length c_p0_1]]) W w [.blk b1010 2 [.int .i64 x1011], .blk b16 2 [.int .i64 (p1.length : Int)], .blk b15 46 [.slice A10 n11 c12], .mat A10 n11 c12 23 2 vs14 ms1918, .blk b1 39 [.int .i64 p0.Events, .slice A_p0_1 p0.Places.length c_p0_1], .blk b1967 96 [.int .i64 q1965.From, .int .i64 q1965.To, .int .i64 q1965.Delay, .int .i64 q1965.Tokens]] := hs
                    refine mY (i := 0) [[]] rfl (by kernel_rfl) (by kernel_rfl) hf hs0 rfl rfl rfl (Y_load_blk rfl rfl (i := 2) rfl rfl ag46) ?_; clear hf; intro a hf
                    refine mY (i := 1) [[]] rfl (by kernel_rfl) (by kernel_rfl) hf hs0 rfl rfl rfl (Y_load_blk rfl rfl (i := 0) rfl rfl ag2) ?_; clear hf; intro a hf
                    obtain ⟨q1974, hi1975, hm1962⟩ := bind_some hm1962
                    obtain ⟨hi1975a, hi1975b, hi1975q⟩ := idx_some hi1975
                    obtain ⟨A1976, c1977, hv1978⟩ := hs.matRow (i := 3) rfl hi1975q
                    refine mYp (i := 2) rfl (by kernel_rfl) (by kernel_rfl) hf rfl rfl rfl (fun _ => Y_index rfl rfl rfl el46 ti23 (Rd.isAt (hs.rdV (i := 3) rfl) hv1978) hi1975a (ltn hn1919 hi1975b)) ?_; clear hf; intro a hf
                    refine mY (i := 3) [[]] rfl (by kernel_rfl) (by kernel_rfl) hf hs0 rfl rfl rfl (Y_load_rd rfl rfl (fun w hs => hs.rdV (i := 3) rfl) (at1 hv1978) ag23) ?_; clear hf; intro a hf
                    refine mYp (i := 4) rfl (by kernel_rfl) (by kernel_rfl) hf rfl rfl rfl (fun _ => Y_move rfl rfl) ?_; clear hf; intro a hf
                    refine mY (i := 5) [[]] rfl (by kernel_rfl) (by kernel_rfl) hf hs0 rfl rfl rfl (Y_load_blk rfl rfl (i := 2) rfl rfl ag46) ?_; clear hf; intro a hf
                    refine mY (i := 6) [[]] rfl (by kernel_rfl) (by kernel_rfl) hf hs0 rfl rfl rfl (Y_load_blk rfl rfl (i := 0) rfl rfl ag2) ?_; clear hf; intro a hf
                    obtain ⟨q1979, hi1980, hm1962⟩ := bind_some hm1962
                    obtain ⟨hi1980a, hi1980b, hi1980q⟩ := idx_some hi1980
                    obtain ⟨A1981, c1982, hv1983⟩ := hs.matRow (i := 3) rfl hi1980q
                    refine mYp (i := 7) rfl (by kernel_rfl) (by kernel_rfl) hf rfl rfl rfl (fun _ => Y_index rfl rfl rfl el46 ti23 (Rd.isAt (hs.rdV (i := 3) rfl) hv1983) hi1980a (ltn hn1919 hi1980b)) ?_; clear hf; intro a hf
                    refine mY (i := 8) [[]] rfl (by kernel_rfl) (by kernel_rfl) hf hs0 rfl rfl rfl (Y_load_rd rfl rfl (fun w hs => hs.rdV (i := 3) rfl) (at1 hv1983) ag23) ?_; clear hf; intro a hf
                    refine mYp (i := 9) rfl (by kernel_rfl) (by kernel_rfl) hf rfl rfl rfl (fun _ => Y_move rfl rfl) ?_; clear hf; intro a hf
                    obtain ⟨q1984, hi1985, hm1962⟩ := bind_some hm1962
                    obtain ⟨hi1985a, hi1985b, hi1985q⟩ := idx_some hi1985
                    refine mYp (i := 10) rfl (by kernel_rfl) (by kernel_rfl) hf rfl rfl rfl (fun _ => Y_index rfl rfl rfl el23 ti2 (Rd.isAt (hs.rdRow (i := 3) rfl ⟨hi1980q, hv1983⟩) (at1 (ints_at hi1985q))) hi1985a hi1985b) ?_; clear hf; intro a hf
                    refine mY (i := 11) [[]] rfl (by kernel_rfl) (by kernel_rfl) hf hs0 rfl rfl rfl (Y_load_rd rfl rfl (fun w hs => hs.rdRow (i := 3) rfl ⟨hi1980q, hv1983⟩) (at1 (ints_at hi1985q)) ag2) ?_; clear hf; intro a hf
                    refine mY (i := 12) [[]] rfl (by kernel_rfl) (by kernel_rfl) hf hs0 rfl rfl rfl (Y_load_blk rfl rfl (i := 2) rfl rfl ag46) ?_; clear hf; intro a hf
                    refine mY (i := 13) [[]] rfl (by kernel_rfl) (by kernel_rfl) hf hs0 rfl rfl rfl (Y_load_blk rfl rfl (i := 0) rfl rfl ag2) ?_; clear hf; intro a hf
                    refine mYp (i := 14) rfl (by kernel_rfl) (by kernel_rfl) hf rfl rfl rfl (fun _ => Y_fieldAddr rfl rfl fo96_3) ?_; clear hf; intro a hf
                    refine mY (i := 15) [[]] rfl (by kernel_rfl) (by kernel_rfl) hf hs0 rfl rfl rfl (Y_load_blk rfl rfl (i := 5) rfl rfl ag2) ?_; clear hf; intro a hf
                    refine mYp (i := 16) rfl (by kernel_rfl) (by kernel_rfl) hf rfl rfl rfl (fun _ => Y_add rfl rfl rfl) ?_; clear hf; intro a hf
                    obtain ⟨q1986, hi1987, hm1962⟩ := bind_some hm1962
                    obtain ⟨hi1987a, hi1987b, hi1987q⟩ := idx_some hi1987
                    obtain ⟨A1988, c1989, hv1990⟩ := hs.matRow (i := 3) rfl hi1987q
                    refine mYp (i := 17) rfl (by kernel_rfl) (by kernel_rfl) hf rfl rfl rfl (fun _ => Y_index rfl rfl rfl el46 ti23 (Rd.isAt (hs.rdV (i := 3) rfl) hv1990) hi1987a (ltn hn1919 hi1987b)) ?_; clear hf; intro a hf
                    refine mY (i := 18) [[]] rfl (by kernel_rfl) (by kernel_rfl) hf hs0 rfl rfl rfl (Y_load_rd rfl rfl (fun w hs => hs.rdV (i := 3) rfl) (at1 hv1990) ag23) ?_; clear hf; intro a hf
                    refine mYp (i := 19) rfl (by kernel_rfl) (by kernel_rfl) hf rfl rfl rfl (fun _ => Y_fieldAddr rfl rfl fo96_1) ?_; clear hf; intro a hf
                    refine mY (i := 20) [[]] rfl (by kernel_rfl) (by kernel_rfl) hf hs0 rfl rfl rfl (Y_load_blk rfl rfl (i := 5) rfl rfl ag2) ?_; clear hf; intro a hf
                    obtain ⟨q1991, hi1992, hm1962⟩ := bind_some hm1962
                    obtain ⟨hi1992a, hi1992b, hi1992q⟩ := idx_some hi1992
                    refine mYp (i := 21) rfl (by kernel_rfl) (by kernel_rfl) hf rfl rfl rfl (fun _ => Y_index rfl rfl rfl el23 ti2 (Rd.isAt (hs.rdRow (i := 3) rfl ⟨hi1987q, hv1990⟩) (at1 (ints_at hi1992q))) hi1992a hi1992b) ?_; clear hf; intro a hf
                    refine mY (i := 22) [[]] rfl (by kernel_rfl) (by kernel_rfl) hf hs0 rfl rfl rfl (Y_load_rd rfl rfl (fun w hs => hs.rdRow (i := 3) rfl ⟨hi1987q, hv1990⟩) (at1 (ints_at hi1992q)) ag2) ?_; clear hf; intro a hf
                    refine mYp (i := 23) rfl (by kernel_rfl) (by kernel_rfl) hf rfl rfl rfl (fun _ => Y_fieldAddr rfl rfl fo96_2) ?_; clear hf; intro a hf
                    refine mY (i := 24) [[]] rfl (by kernel_rfl) (by kernel_rfl) hf hs0 rfl rfl rfl (Y_load_blk rfl rfl (i := 5) rfl rfl ag2) ?_; clear hf; intro a hf
                    refine mYp (i := 25) rfl (by kernel_rfl) (by kernel_rfl) hf rfl rfl rfl (fun _ => Y_sub rfl rfl rfl) ?_; clear hf; intro a hf
                    refine mYp (i := 26) rfl (by kernel_rfl) (by kernel_rfl) hf rfl rfl rfl (fun _ => Y_min rfl rfl rfl) ?_; clear hf; intro a hf
                    obtain ⟨q1993, hi1994, hm1962⟩ := bind_some hm1962
                    obtain ⟨hi1994a, hi1994b, hi1994q⟩ := idx_some hi1994
                    refine mYp (i := 27) rfl (by kernel_rfl) (by kernel_rfl) hf rfl rfl rfl (fun _ => Y_index rfl rfl rfl el23 ti2 (Rd.isAt (hs.rdRow (i := 3) rfl ⟨hi1975q, hv1978⟩) (at1 (ints_at hi1994q))) hi1994a hi1994b) ?_; clear hf; intro a hf
                    refine mRun (i := 28) rfl (by kernel_rfl) ?_
                    obtain ⟨xs1995, hu1997, hm1962⟩ := bind_some hm1962
                    obtain ⟨ms1996, hu1998, hm1962⟩ := bind_some hm1962
                    refine sStoreM (i := 3) (k := x1011) hf hs rfl rfl rfl rfl rfl rfl hi1975q hv1978 rfl hu1997 hu1998 ti2 ?_; clear hs; intro w hs
                    obtain ⟨hq1999, hv2000⟩ := rowUpd hu1997 hu1998 hv1978
                    have hs : St (muL [.blk b1010 2 [.int .i64 x1011], .blk b16 2 [.int .i64 (p1.length : Int)], .blk b15 46 [.slice A10 n11 c12], .mat A10 n11 c12 23 2 vs14 ms1836, .blk b1 39 [.int .i64 p0.Events, .slice A_p0_1 p0.Places.length c_p0_1]]) W w [.blk b1010 2 [.int .i64 x1011], .blk b16 2 [.int .i64 (p1.length : Int)], .blk b15 46 [.slice A10 n11 c12], .mat A10 n11 c12 23 2 vs14 ms1996, .blk b1 39 [.int .i64 p0.Events, .slice A_p0_1 p0.Places.length c_p0_1], .blk b1967 96 [.int .i64 q1965.From, .int .i64 q1965.To, .int .i64 q1965.Delay, .int .i64 q1965.Tokens]] := hs
                    refine wpO_nil ⟨Or.inl (by decide), ?_⟩
                    refine mDone (by kernel_rfl) ?_
                    clear hs0
                    refine wpR_nil (Qb_normal ?_)
                    refine wpR_region rfl ?_
                    refine sY hf hs rfl rfl rfl (Y_add rfl rfl rfl) ?_; clear hf; intro a hf
                    refine sY hf hs rfl rfl rfl (Y_move rfl rfl) ?_; clear hf; intro a hf
                    refine wpO_nil ?_
                    refine wpR_nil (Ql_normal ?_)
                    exact ⟨ms1996, (IntKind.i64.wrap (x1920 + 1)), hm1962, ((hn1919).trans (upd_len hu1998).symm), (FrD.pick (FrD.pick (FrD.pick (FrD.pick (FrD.pick (FrD.pick (FrD.pick hf.none hf rfl) hf rfl) hf rfl) hf rfl) hf rfl) hf rfl) hf rfl), hs.sel [0, 1, 2, 3, 4] (by decide)⟩
                  · have hm1962 := bif_f hm1962 hb1973
                    refine wpR_skip ?_
                    refine wpR_nil (Qb_normal ?_)
                    refine wpR_region rfl ?_
                    refine sY hf hs rfl rfl rfl (Y_add rfl rfl rfl) ?_; clear hf; intro a hf
                    refine sY hf hs rfl rfl rfl (Y_move rfl rfl) ?_; clear hf; intro a hf
                    refine wpO_nil ?_
                    refine wpR_nil (Ql_normal ?_)
                    exact ⟨ms1918, (IntKind.i64.wrap (x1920 + 1)), hm1962, hn1919, (FrD.pick (FrD.pick (FrD.pick (FrD.pick (FrD.pick (FrD.pick (FrD.pick hf.none hf rfl) hf rfl) hf rfl) hf rfl) hf rfl) hf rfl) hf rfl), hs.sel [0, 1, 2, 3, 4] (by decide)⟩
              · have hm1962 := bif_f hm1962 hb1964
                refine wpR_exit (Ql_exit (Qb_exit ?_))
                exact ⟨ms1918, Option.some.inj hm1962, hn1919, hf.none, hs⟩
          · rintro a w ⟨ms1958, hr_, hn1959, hf, hs⟩
            subst hr_
            try dsimp only at hm1840
            refine wpR_nil (Qb_normal ?_)
            refine wpR_nil ?_
            exact ⟨rfl, _, ⟨rest_, by rw [← hpre_]; simp, ms1958, hm1840, hn1959, rfl⟩, hs⟩
        · rintro a w D2001 _ ⟨rest_, hr2_, ms1836, hm1840, hn1837, rfl⟩ hs hf
          obtain rfl : rest_ = [] := by simpa using hr2_
          rw [impl_latestTimes_R16] at hm1840
          obtain rfl := Option.some.inj hm1840
          try dsimp only at hm1509
          have hs : St [] W w [.mks (D2001 :: bs1007), .row A4 n5 c6 2 1 (ints r2.1), .blk b1512 23 [.slice A4 n5 c6], .blk b1010 2 [.int .i64 x1011], .blk b16 2 [.int .i64 (p1.length : Int)], .blk b15 46 [.slice A10 n11 c12], .mat A10 n11 c12 23 2 vs14 ms1836, .blk b1 39 [.int .i64 p0.Events, .slice A_p0_1 p0.Places.length c_p0_1]] := hs
          refine wpL_nil (Qb_normal ?_)
          refine wpL_nil (Qb_normal ?_)
          refine wpL_seq ?_
          refine wpL_seq ?_
          refine wpL_region ?_
          refine sY hf hs rfl rfl rfl (Y_load_blk rfl rfl (i := 3) rfl rfl ag2) ?_; clear hf; intro a hf
          refine wpO_nil ?_
          refine wpL_region ?_
          refine sAlloc hf hs rfl rfl rfl rfl ti2 ?_; clear hf hs; intro a w b2002 hs hf
          have hs : St [] W w [.mks (D2001 :: bs1007), .row A4 n5 c6 2 1 (ints r2.1), .blk b1512 23 [.slice A4 n5 c6], .blk b1010 2 [.int .i64 x1011], .blk b16 2 [.int .i64 (p1.length : Int)], .blk b15 46 [.slice A10 n11 c12], .mat A10 n11 c12 23 2 vs14 ms1836, .blk b1 39 [.int .i64 p0.Events, .slice A_p0_1 p0.Places.length c_p0_1], .blk b2002 2 [.int .i64 0]] := hs
          refine sStore (i := 8) (us := [.int .i64 x1011]) hf hs rfl rfl rfl rfl rfl rfl ti2 rfl rfl rfl (Nat.le_of_ble_eq_true rfl) rfl ?_; clear hs; intro w hs
          have hs : St [] W w [.mks (D2001 :: bs1007), .row A4 n5 c6 2 1 (ints r2.1), .blk b1512 23 [.slice A4 n5 c6], .blk b1010 2 [.int .i64 x1011], .blk b16 2 [.int .i64 (p1.length : Int)], .blk b15 46 [.slice A10 n11 c12], .mat A10 n11 c12 23 2 vs14 ms1836, .blk b1 39 [.int .i64 p0.Events, .slice A_p0_1 p0.Places.length c_p0_1], .blk b2002 2 [.int .i64 x1011]] := hs
          refine wpO_nil ?_
          refine wpL_region ?_
          refine sY hf hs rfl rfl rfl (Y_load_blk rfl rfl (i := 8) rfl rfl ag2) ?_; clear hf; intro a hf
          refine sY hf hs rfl rfl rfl (Y_sub rfl rfl rfl) ?_; clear hf; intro a hf
          refine sStore (i := 8) (us := [.int .i64 (IntKind.i64.wrap (x1011 - 1))]) hf hs rfl rfl rfl rfl rfl rfl ti2 rfl rfl rfl (Nat.le_of_ble_eq_true rfl) rfl ?_; clear hs; intro w hs
          have hs : St [] W w [.mks (D2001 :: bs1007), .row A4 n5 c6 2 1 (ints r2.1), .blk b1512 23 [.slice A4 n5 c6], .blk b1010 2 [.int .i64 x1011], .blk b16 2 [.int .i64 (p1.length : Int)], .blk b15 46 [.slice A10 n11 c12], .mat A10 n11 c12 23 2 vs14 ms1836, .blk b1 39 [.int .i64 p0.Events, .slice A_p0_1 p0.Places.length c_p0_1], .blk b2002 2 [.int .i64 (IntKind.i64.wrap (x1011 - 1))]] := hs
          refine wpO_nil ?_
          refine wpL_nil (Ql_normal ?_)
          exact ⟨ms1836, (IntKind.i64.wrap (x1011 - 1)), (D2001 :: bs1007), b2002, hm1509, hn1837, (FrD.pick (FrD.pick (FrD.pick (FrD.pick (FrD.pick hf.none hf rfl) hf rfl) hf rfl) hf rfl) hf rfl), hs.sel [0, 7, 1, 5, 6, 4, 8] (by decide)⟩
      · have hm1509 := bif_f hm1509 hb1511
        refine wpL_exit (Ql_exit (Qb_exit ?_))
        exact ⟨ms1008, bs1007, Option.some.inj hm1509, hn1009, (FrD.pick hf.none hf rfl), hs.sel [0, 3, 4] (by decide)⟩
  · rintro a w ⟨ms1505, bs1504, hr_, hn1506, hf, hs⟩
    subst hr_
    try dsimp only at hm
    refine wpL_seq ?_
    refine wpL_region ?_
    refine sY hf hs rfl rfl rfl (Y_load_blk rfl rfl (i := 1) rfl rfl ag46) ?_; clear hf; intro a hf
    refine sY hf hs rfl rfl rfl (Y_assign rfl rfl) ?_; clear hf; intro a hf
    refine wpO_nil ?_
    obtain rfl := Option.some.inj hm
    refine wpL_ret (retM_tmp rfl hf rfl hs (i := 0) rfl (fun w hs => ?_))
    exact ⟨_, rfl, A10, n11, c12, vs14, rfl, hn1506, hs.sel [1] (by decide)⟩

set_option maxHeartbeats 2000000 in
set_option maxRecDepth 100000 in
theorem impl_firingTimes_ok (F : Nat) (p0 : GEventGraph) (A_p0_1 : Option Addr) (n_p0_1 c_p0_1 : Nat) (hn_p0_1 : n_p0_1 = p0.Places.length) (p1 : Int) (p2 : List Int) (A_p2_1 : Option Addr) (n_p2_1 c_p2_1 : Nat) (hn_p2_1 : n_p2_1 = p2.length) (r : List (List Int)) (W : World) (hm : impl_firingTimes F p0 p1 p2 = some r) (h_p0_1 : Rd W A_p0_1 ((recs GPlace.cells) p0.Places)) (h_p2_1 : Rd W A_p2_1 (ints p2)) :
    Calls Try.prog 176 [.agg #[.int .i64 p0.Events, .slice A_p0_1 n_p0_1 c_p0_1], .int .i64 p1, .slice A_p2_1 n_p2_1 c_p2_1].toArray W fun e w' => ∃ v, e = .returned v ∧ ∃ A2752, ∃ n2753, ∃ c2754, ∃ vs2756, v = .slice A2752 n2753 c2754 ∧ n2753 = r.length ∧ St [] W w' [.mat A2752 n2753 c2754 23 2 vs2756 r] := by
  subst hn_p0_1
  subst hn_p2_1
  unfold impl_firingTimes at hm
  refine Calls.enter (N := 84) Try.func176 rfl rfl rfl (fun a hf => ?_)
  have hs := St.start W
  obtain ⟨w, hw_⟩ : ∃ w, w = W := ⟨W, rfl⟩
  clear hw_ w
  refine wpL_seq ?_
  refine wpL_region ?_
  refine sBox hf hs rfl rfl rfl rfl rfl (cs := [.int .i64 p0.Events, .slice A_p0_1 p0.Places.length c_p0_1]) rfl ?_; clear hf hs; intro a w b1 hs hf
  have hs : St [] W w [.blk b1 39 [.int .i64 p0.Events, .slice A_p0_1 p0.Places.length c_p0_1]] := hs
  refine sY hf hs rfl rfl rfl (Y_assign rfl rfl) ?_; clear hf; intro a hf
  refine wpO_nil ?_
  refine wpL_seq ?_
  refine wpL_region ?_
  refine sY hf hs rfl rfl rfl (Y_load_blkS rfl rfl (i := 0) rfl ag39 ti39 rfl) ?_; clear hf; intro a hf
  obtain ⟨r2, hc3, hm⟩ := bind_some hm
  refine sCall hf rfl rfl rfl rfl (cap := []) rfl rfl en173 (impl_firingOrder_ok F p0 A_p0_1 p0.Places.length c_p0_1 rfl _ _ hc3 (h_p0_1.at hs)) ?_; clear hf
  rintro _ w ⟨A4, n5, c6, rfl, hn7, hs1⟩ a hf
  have hs : St [] W w [.blk b1 39 [.int .i64 p0.Events, .slice A_p0_1 p0.Places.length c_p0_1], .row A4 n5 c6 2 1 (ints r2.1)] := hs.join hs1
  clear hs1
  refine sY hf hs rfl rfl rfl (Y_move rfl rfl) ?_; clear hf; intro a hf
  refine sY hf hs rfl rfl rfl (Y_extract rfl rfl rfl) ?_; clear hf; intro a hf
  refine sY hf hs rfl rfl rfl (Y_extract rfl rfl rfl) ?_; clear hf; intro a hf
  refine sY hf hs rfl rfl rfl (Y_assign rfl rfl) ?_; clear hf; intro a hf
  refine sY hf hs rfl rfl rfl (Y_assign rfl rfl) ?_; clear hf; intro a hf
  refine wpO_nil ?_
  refine wpL_seq ?_
  refine wpL_region ?_
  refine sY hf hs rfl rfl rfl (Y_assign rfl rfl) ?_; clear hf; intro a hf
  refine wpO_nil ?_
  refine wpL_seq ?_
  refine wpL_seq ?_
  refine wpL_region ?_
  refine sY hf hs rfl rfl rfl (Y_move rfl rfl) ?_; clear hf; intro a hf
  refine sY hf hs rfl rfl rfl (Y_move rfl rfl) ?_; clear hf; intro a hf
  refine wpO_nil ?_
  obtain ⟨r2068, hl2069, hm⟩ := bind_some hm
  have hs : St [] W _ [.blk b1 39 [.int .i64 p0.Events, .slice A_p0_1 p0.Places.length c_p0_1], .row A4 n5 c6 2 1 (ints r2.1), .mat none 0 0 23 2 [] ([] : List (List Int))] := hs.addNilM 23 2
  refine wpL_block (fun a w => ∃ ms2062 : List (List Int), ∃ A2063, ∃ n2064, ∃ c2065, ∃ vs2067, ms2062 = r2068 ∧ n2064 = ms2062.length ∧ Fr a 84 [(9, .slice A2063 n2064 c2065)] ∧ St [] W w [.mat A2063 n2064 c2065 23 2 vs2067 ms2062]) ?_ ?_
  · refine wpL_loop (fun n a w => ∃ ms1376 : List (List Int), ∃ x1382 : Int, ∃ A1377, ∃ n1378, ∃ c1379, ∃ vs1381, impl_firingTimes_L16 F p0 p1 p2 r2 n ms1376 x1382 = some r2068 ∧ n1378 = ms1376.length ∧ Fr a 84 [(2, .slice A_p2_1 p2.length c_p2_1), (3, .pointer (some ⟨b1, 0, none⟩)), (7, .slice A4 n5 c6), (9, .slice A1377 n1378 c1379), (20, .int .i64 p1), (21, .int .i64 x1382)] ∧ St [] W w [.blk b1 39 [.int .i64 p0.Events, .slice A_p0_1 p0.Places.length c_p0_1], .row A4 n5 c6 2 1 (ints r2.1), .mat A1377 n1378 c1379 23 2 vs1381 ms1376]) F ?_ ?_ ?_
    · exact ⟨([] : List (List Int)), 0, none, 0, 0, [], hl2069, rfl, (FrD.pick (FrD.pick (FrD.pick (FrD.pick (FrD.pick (FrD.pick hf.none hf rfl) hf rfl) hf rfl) hf rfl) hf rfl) hf rfl), hs⟩
    · rintro a w ⟨ms1376, x1382, A1377, n1378, c1379, vs1381, h0_, -, -, -⟩; simp [impl_firingTimes_L16] at h0_
    · rintro n2071 a w ⟨ms1376, x1382, A1377, n1378, c1379, vs1381, hm2070, hn1380, hf, hs⟩
      rw [impl_firingTimes_L16] at hm2070
      refine wpL_seq ?_
      refine wpL_region ?_
      refine sY hf hs rfl rfl rfl (Y_lss rfl rfl rfl) ?_; clear hf; intro a hf
      refine wpO_nil ?_
      refine wpL_seq ?_
      refine wpL_cond hf rfl (fun hb2072 => ?_) (fun hb2072 => ?_)
      · have hm2070 := bif_t hm2070 hb2072
        refine wpL_skip ?_
        refine wpL_seq ?_
        refine wpL_block0 ?_
        refine wpL_seq ?_
        refine wpL_region ?_
        refine sY hf hs rfl rfl rfl (Y_move rfl rfl) ?_; clear hf; intro a hf
        refine sY hf hs rfl rfl rfl (Y_assign rfl rfl) ?_; clear hf; intro a hf
        refine wpO_nil ?_
        refine wpL_seq ?_
        refine wpL_region ?_
        refine sY hf hs rfl rfl rfl (Y_move rfl rfl) ?_; clear hf; intro a hf
        refine sY hf hs rfl rfl rfl (Y_move rfl rfl) ?_; clear hf; intro a hf
        obtain ⟨r2073, hc2074, hm2070⟩ := bind_some hm2070
        refine sCall hf rfl rfl rfl rfl (cap := []) rfl rfl en71 (slices_Clone_int64_ok F p2 A_p2_1 p2.length c_p2_1 rfl _ _ hc2074 (h_p2_1.at hs)) ?_; clear hf
        rintro _ w ⟨A2075, n2076, c2077, rfl, hn2078, hs1⟩ a hf
        have hs : St [] W w [.blk b1 39 [.int .i64 p0.Events, .slice A_p0_1 p0.Places.length c_p0_1], .row A4 n5 c6 2 1 (ints r2.1), .mat A1377 n1378 c1379 23 2 vs1381 ms1376, .row A2075 n2076 c2077 2 1 (ints r2073)] := hs.join hs1
        clear hs1
        refine sOneM (j := 3) hf hs rfl rfl rfl rfl rfl rfl hn2078 el46 ti23 ?_; clear hf hs; intro a w A2079 hs hf
        have hs : St [] W w [.blk b1 39 [.int .i64 p0.Events, .slice A_p0_1 p0.Places.length c_p0_1], .row A4 n5 c6 2 1 (ints r2.1), .mat A1377 n1378 c1379 23 2 vs1381 ms1376, .mat A2079 1 1 23 2 ([.slice A2075 r2073.length c2077]) ([r2073])] := hs
        obtain ⟨ms2083, ha2084, hm2070⟩ := bind_some hm2070
        refine sAppendM (i := 2) (j := 3) hf hs rfl rfl rfl rfl rfl rfl hn1380 rfl (by decide) rfl rfl (by decide) ha2084 el46 ti23 rfl ?_; clear hf hs; intro a w A2081 c2082 hs hf
        have hs : St [] W w [.blk b1 39 [.int .i64 p0.Events, .slice A_p0_1 p0.Places.length c_p0_1], .row A4 n5 c6 2 1 (ints r2.1), .mat A2081 ms2083.length c2082 23 2 (vs1381 ++ ([.slice A2075 r2073.length c2077])) ms2083] := hs
        obtain ⟨hq2085, hv2086⟩ := hs.appended (i := 2) rfl ha2084
        refine sY hf hs rfl rfl rfl (Y_assign rfl rfl) ?_; clear hf; intro a hf
        refine wpO_nil ?_
        refine wpL_seq ?_
        refine wpL_region ?_
        refine sY hf hs rfl rfl rfl (Y_move rfl rfl) ?_; clear hf; intro a hf
        refine sY hf hs rfl rfl rfl (Y_lenH rfl rfl el23 hn7) ?_; clear hf; intro a hf
        refine sY hf hs rfl rfl rfl (Y_move rfl rfl) ?_; clear hf; intro a hf
        refine wpO_nil ?_
        obtain ⟨r2584, hl2585, hm2070⟩ := bind_some hm2070
        refine wpL_block (fun a w => ∃ ms2582 : List (List Int), ms2582 = r2584 ∧ ms2083.length = ms2582.length ∧ Fr a 84 [(2, .slice A_p2_1 p2.length c_p2_1), (3, .pointer (some ⟨b1, 0, none⟩)), (7, .slice A4 n5 c6), (9, .slice A2081 ms2083.length c2082), (20, .int .i64 p1), (21, .int .i64 x1382)] ∧ St [] W w [.blk b1 39 [.int .i64 p0.Events, .slice A_p0_1 p0.Places.length c_p0_1], .row A4 n5 c6 2 1 (ints r2.1), .mat A2081 ms2083.length c2082 23 2 (vs1381 ++ ([.slice A2075 r2073.length c2077])) ms2582]) ?_ ?_
        · refine wpL_loop (fun n a w => ∃ ms2416 : List (List Int), ∃ x2418 : Int, impl_firingTimes_L20 F p0 r2 x1382 n ms2416 x2418 = some r2584 ∧ ms2083.length = ms2416.length ∧ Fr a 84 [(2, .slice A_p2_1 p2.length c_p2_1), (3, .pointer (some ⟨b1, 0, none⟩)), (7, .slice A4 n5 c6), (9, .slice A2081 ms2083.length c2082), (10, .int .i64 x1382), (20, .int .i64 p1), (21, .int .i64 x1382), (29, .slice A4 n5 c6), (30, .int .i64 (r2.1.length : Int)), (31, .int .i64 x2418)] ∧ St [] W w [.blk b1 39 [.int .i64 p0.Events, .slice A_p0_1 p0.Places.length c_p0_1], .row A4 n5 c6 2 1 (ints r2.1), .mat A2081 ms2083.length c2082 23 2 (vs1381 ++ ([.slice A2075 r2073.length c2077])) ms2416]) F ?_ ?_ ?_
          · exact ⟨ms2083, 0, hl2585, rfl, (FrD.pick (FrD.pick (FrD.pick (FrD.pick (FrD.pick (FrD.pick (FrD.pick (FrD.pick (FrD.pick (FrD.pick hf.none hf rfl) hf rfl) hf rfl) hf rfl) hf rfl) hf rfl) hf rfl) hf rfl) hf rfl) hf rfl), hs⟩
          · rintro a w ⟨ms2416, x2418, h0_, -, -, -⟩; simp [impl_firingTimes_L20] at h0_
          · rintro n2587 a w ⟨ms2416, x2418, hm2586, hn2417, hf, hs⟩
            rw [impl_firingTimes_L20] at hm2586
            refine wpL_seq ?_
            refine wpL_region ?_
            refine sY hf hs rfl rfl rfl (Y_lss rfl rfl rfl) ?_; clear hf; intro a hf
            refine wpO_nil ?_
            refine wpL_seq ?_
            refine wpL_cond hf rfl (fun hb2588 => ?_) (fun hb2588 => ?_)
            · have hm2586 := bif_t hm2586 hb2588
              refine wpL_skip ?_
              refine wpL_seq ?_
              refine wpL_block0 ?_
              refine wpL_seq ?_
              refine wpL_region ?_
              obtain ⟨q2589, hi2590, hm2586⟩ := bind_some hm2586
              obtain ⟨hi2590a, hi2590b, hi2590q⟩ := idx_some hi2590
              refine sY hf hs rfl rfl rfl (Y_index rfl rfl rfl el23 ti2 (Rd.isAt (hs.rd (i := 1) rfl) (at1 (ints_at hi2590q))) hi2590a (ltn hn7 hi2590b)) ?_; clear hf; intro a hf
              refine sY hf hs rfl rfl rfl (Y_load_rd rfl rfl (fun w hs => hs.rd (i := 1) rfl) (at1 (ints_at hi2590q)) ag2) ?_; clear hf; intro a hf
              refine sY hf hs rfl rfl rfl (Y_assign rfl rfl) ?_; clear hf; intro a hf
              refine wpO_nil ?_
              refine wpL_seq ?_
              refine wpL_region ?_
              refine sY hf hs rfl rfl rfl (Y_fieldAddr rfl rfl fo39_1) ?_; clear hf; intro a hf
              refine sY hf hs rfl rfl rfl (Y_load_blk rfl rfl (i := 0) rfl rfl ag37) ?_; clear hf; intro a hf
              refine sY hf hs rfl rfl rfl (Y_lenH rfl rfl el37 rfl) ?_; clear hf; intro a hf
              refine sY hf hs rfl rfl rfl (Y_move rfl rfl) ?_; clear hf; intro a hf
              refine wpO_nil ?_
              obtain ⟨r2710, hl2711, hm2586⟩ := bind_some hm2586
              refine wpL_block (fun a w => ∃ ms2708 : List (List Int), ms2708 = r2710 ∧ ms2083.length = ms2708.length ∧ Fr a 84 [(2, .slice A_p2_1 p2.length c_p2_1), (3, .pointer (some ⟨b1, 0, none⟩)), (7, .slice A4 n5 c6), (9, .slice A2081 ms2083.length c2082), (10, .int .i64 x1382), (20, .int .i64 p1), (21, .int .i64 x1382), (29, .slice A4 n5 c6), (30, .int .i64 (r2.1.length : Int)), (31, .int .i64 x2418)] ∧ St [] W w [.blk b1 39 [.int .i64 p0.Events, .slice A_p0_1 p0.Places.length c_p0_1], .row A4 n5 c6 2 1 (ints r2.1), .mat A2081 ms2083.length c2082 23 2 (vs1381 ++ ([.slice A2075 r2073.length c2077])) ms2708]) ?_ ?_
              · refine wpL_loop (fun n a w => ∃ ms2668 : List (List Int), ∃ x2670 : Int, impl_firingTimes_L21 F p0 x1382 q2589 n ms2668 x2670 = some r2710 ∧ ms2083.length = ms2668.length ∧ Fr a 84 [(2, .slice A_p2_1 p2.length c_p2_1), (3, .pointer (some ⟨b1, 0, none⟩)), (7, .slice A4 n5 c6), (9, .slice A2081 ms2083.length c2082), (10, .int .i64 x1382), (12, .int .i64 q2589), (20, .int .i64 p1), (21, .int .i64 x1382), (29, .slice A4 n5 c6), (30, .int .i64 (r2.1.length : Int)), (31, .int .i64 x2418), (36, .slice A_p0_1 p0.Places.length c_p0_1), (37, .int .i64 (p0.Places.length : Int)), (38, .int .i64 x2670)] ∧ St [] W w [.blk b1 39 [.int .i64 p0.Events, .slice A_p0_1 p0.Places.length c_p0_1], .row A4 n5 c6 2 1 (ints r2.1), .mat A2081 ms2083.length c2082 23 2 (vs1381 ++ ([.slice A2075 r2073.length c2077])) ms2668]) F ?_ ?_ ?_
                · exact ⟨ms2416, 0, hl2711, hn2417, (FrD.pick (FrD.pick (FrD.pick (FrD.pick (FrD.pick (FrD.pick (FrD.pick (FrD.pick (FrD.pick (FrD.pick (FrD.pick (FrD.pick (FrD.pick (FrD.pick hf.none hf rfl) hf rfl) hf rfl) hf rfl) hf rfl) hf rfl) hf rfl) hf rfl) hf rfl) hf rfl) hf rfl) hf rfl) hf rfl) hf rfl), hs⟩
                · rintro a w ⟨ms2668, x2670, h0_, -, -, -⟩; simp [impl_firingTimes_L21] at h0_
                · rintro n2713 a w ⟨ms2668, x2670, hm2712, hn2669, hf, hs⟩
                  rw [impl_firingTimes_L21] at hm2712
                  refine wpL_seq ?_
                  refine wpL_region ?_
                  refine sY hf hs rfl rfl rfl (Y_lss rfl rfl rfl) ?_; clear hf; intro a hf
                  refine wpO_nil ?_
                  refine wpL_seq ?_
                  refine wpL_cond hf rfl (fun hb2714 => ?_) (fun hb2714 => ?_)
                  · have hm2712 := bif_t hm2712 hb2714
                    refine wpL_skip ?_
                    refine wpL_seq ?_
                    refine wpL_block0 ?_
                    refine wpL_seq ?_
                    refine wpL_region ?_
                    obtain ⟨q2715, hi2716, hm2712⟩ := bind_some hm2712
                    obtain ⟨hi2716a, hi2716b, hi2716q⟩ := idx_some hi2716
                    refine sY hf hs rfl rfl rfl (Y_index rfl rfl rfl el37 ti96 (Rd.isAt (h_p0_1.at hs) (recs_at (s := 4) GPlace.len hi2716q (j := 0) rfl)) hi2716a hi2716b) ?_; clear hf; intro a hf
                    refine sY hf hs rfl rfl rfl (Y_load_rdS rfl rfl (us := [.int .i64 q2715.From, .int .i64 q2715.To, .int .i64 q2715.Delay, .int .i64 q2715.Tokens]) (fun w hs => h_p0_1.at hs) (fun j u hj => recs_at (s := 4) GPlace.len hi2716q hj) (Nat.succ_pos _) ag96 ti96 rfl) ?_; clear hf; intro a hf
                    refine sAlloc hf hs rfl rfl rfl rfl ti96 ?_; clear hf hs; intro a w b2717 hs hf
                    have hs : St [] W w [.blk b1 39 [.int .i64 p0.Events, .slice A_p0_1 p0.Places.length c_p0_1], .row A4 n5 c6 2 1 (ints r2.1), .mat A2081 ms2083.length c2082 23 2 (vs1381 ++ ([.slice A2075 r2073.length c2077])) ms2668, .blk b2717 96 [.int .i64 0, .int .i64 0, .int .i64 0, .int .i64 0]] := hs
                    refine sStore (i := 3) (us := [.int .i64 q2715.From, .int .i64 q2715.To, .int .i64 q2715.Delay, .int .i64 q2715.Tokens]) hf hs rfl rfl rfl rfl rfl rfl ti96 rfl rfl rfl (Nat.le_of_ble_eq_true rfl) rfl ?_; clear hs; intro w hs
                    have hs : St [] W w [.blk b1 39 [.int .i64 p0.Events, .slice A_p0_1 p0.Places.length c_p0_1], .row A4 n5 c6 2 1 (ints r2.1), .mat A2081 ms2083.length c2082 23 2 (vs1381 ++ ([.slice A2075 r2073.length c2077])) ms2668, .blk b2717 96 [.int .i64 q2715.From, .int .i64 q2715.To, .int .i64 q2715.Delay, .int .i64 q2715.Tokens]] := hs
                    refine wpO_nil ?_
                    refine wpL_seq ?_
                    obtain ⟨r2720, hj2721, hm2712⟩ := bind_some hm2712
                    refine wpL_cut (fun a w => ∃ b2719 : Bool, b2719 = r2720 ∧ Fr a 84 [(2, .slice A_p2_1 p2.length c_p2_1), (3, .pointer (some ⟨b1, 0, none⟩)), (7, .slice A4 n5 c6), (9, .slice A2081 ms2083.length c2082), (10, .int .i64 x1382), (12, .int .i64 q2589), (14, .pointer (some ⟨b2717, 0, none⟩)), (20, .int .i64 p1), (21, .int .i64 x1382), (29, .slice A4 n5 c6), (30, .int .i64 (r2.1.length : Int)), (31, .int .i64 x2418), (36, .slice A_p0_1 p0.Places.length c_p0_1), (37, .int .i64 (p0.Places.length : Int)), (38, .int .i64 x2670), (51, .bool b2719)] ∧ St [] W w [.blk b1 39 [.int .i64 p0.Events, .slice A_p0_1 p0.Places.length c_p0_1], .row A4 n5 c6 2 1 (ints r2.1), .mat A2081 ms2083.length c2082 23 2 (vs1381 ++ ([.slice A2075 r2073.length c2077])) ms2668, .blk b2717 96 [.int .i64 q2715.From, .int .i64 q2715.To, .int .i64 q2715.Delay, .int .i64 q2715.Tokens]]) ?_ ?_
                    · refine wpL_region ?_
                      refine sY hf hs rfl rfl rfl (Y_fieldAddr rfl rfl fo96_1) ?_; clear hf; intro a hf
                      refine sY hf hs rfl rfl rfl (Y_load_blk rfl rfl (i := 3) rfl rfl ag2) ?_; clear hf; intro a hf
                      refine sY hf hs rfl rfl rfl (Y_move rfl rfl) ?_; clear hf; intro a hf
                      refine sY hf hs rfl rfl rfl (Y_eql rfl rfl rfl) ?_; clear hf; intro a hf
                      refine sY hf hs rfl rfl rfl (Y_move rfl rfl) ?_; clear hf; intro a hf
                      refine bsplit (q2715.To == q2589) (fun hb2722 => ?_) (fun hb2722 => ?_)
                      · have hj2721 := bif_t hj2721 hb2722
                        refine sYg hf hs rfl rfl rfl (congrArg (fun b => some (Value.bool b)) hb2722) rfl rfl rfl (Y_move rfl rfl) ?_; clear hf; intro a hf
                        refine sYg hf hs rfl rfl rfl (congrArg (fun b => some (Value.bool b)) hb2722) rfl rfl rfl (Y_fieldAddr rfl rfl fo96_3) ?_; clear hf; intro a hf
                        refine sYg hf hs rfl rfl rfl (congrArg (fun b => some (Value.bool b)) hb2722) rfl rfl rfl (Y_load_blk rfl rfl (i := 3) rfl rfl ag2) ?_; clear hf; intro a hf
                        refine sYg hf hs rfl rfl rfl (congrArg (fun b => some (Value.bool b)) hb2722) rfl rfl rfl (Y_geq rfl rfl rfl) ?_; clear hf; intro a hf
                        refine sY hf hs rfl rfl rfl (Y_pickT rfl (congrArg (fun b => some (Value.bool b)) hb2722) rfl) ?_; clear hf; intro a hf
                        refine wpO_nil ?_
                        refine wpL_nil (then_normal ?_)
                        exact ⟨(decide (q2715.Tokens ≤ x1382)), Option.some.inj hj2721, (FrD.pick (FrD.pick (FrD.pick (FrD.pick (FrD.pick (FrD.pick (FrD.pick (FrD.pick (FrD.pick (FrD.pick (FrD.pick (FrD.pick (FrD.pick (FrD.pick (FrD.pick (FrD.pick hf.none hf rfl) hf rfl) hf rfl) hf rfl) hf rfl) hf rfl) hf rfl) hf rfl) hf rfl) hf rfl) hf rfl) hf rfl) hf rfl) hf rfl) hf rfl) hf rfl), hs⟩
                      · have hj2721 := bif_f hj2721 hb2722
                        refine sNo hf rfl rfl rfl (congrArg (fun b => some (Value.bool b)) hb2722) rfl rfl rfl ?_; clear hf; intro a hf
                        refine sNo hf rfl rfl rfl (congrArg (fun b => some (Value.bool b)) hb2722) rfl rfl rfl ?_; clear hf; intro a hf
                        refine sNo hf rfl rfl rfl (congrArg (fun b => some (Value.bool b)) hb2722) rfl rfl rfl ?_; clear hf; intro a hf
                        refine sNo hf rfl rfl rfl (congrArg (fun b => some (Value.bool b)) hb2722) rfl rfl rfl ?_; clear hf; intro a hf
                        refine sY hf hs rfl rfl rfl (Y_pickF rfl (congrArg (fun b => some (Value.bool b)) hb2722) rfl) ?_; clear hf; intro a hf
                        refine wpO_nil ?_
                        refine wpL_nil (then_normal ?_)
                        exact ⟨false, Option.some.inj hj2721, (FrD.pick (FrD.pick (FrD.pick (FrD.pick (FrD.pick (FrD.pick (FrD.pick (FrD.pick (FrD.pick (FrD.pick (FrD.pick (FrD.pick (FrD.pick (FrD.pick (FrD.pick (FrD.pick hf.none hf rfl) hf rfl) hf rfl) hf rfl) hf rfl) hf rfl) hf rfl) hf rfl) hf rfl) hf rfl) hf rfl) hf rfl) hf rfl) hf rfl) hf rfl) hf rfl), hs⟩
                    · rintro a w ⟨b2719, hr_, hf, hs⟩
                      subst hr_
                      try dsimp only at hm2712
                      refine wpL_cond hf rfl (fun hb2723 => ?_) (fun hb2723 => ?_)
                      · have hm2712 := bif_t hm2712 hb2723
                        refine wpL_drawM [.blk b1 39 [.int .i64 p0.Events, .slice A_p0_1 p0.Places.length c_p0_1], .row A4 n5 c6 2 1 (ints r2.1), .mat A2081 ms2083.length c2082 23 2 (vs1381 ++ ([.slice A2075 r2073.length c2077])) ms2668, .blk b2717 96 [.int .i64 q2715.From, .int .i64 q2715.To, .int .i64 q2715.Delay, .int .i64 q2715.Tokens]] [28] (by kernel_rfl) hs ?_; clear hs; intro w hs
                        have hs0 : St [] W w [.blk b1 39 [.int .i64 p0.Events, .slice A_p0_1 p0.Places.length c_p0_1], .row A4 n5 c6 2 1 (ints r2.1), .mat A2081 ms2083.length c2082 23 2 (vs1381 ++ ([.slice A2075 r2073.length c2077])) ms2668, .blk b2717 96 [.int .i64 q2715.From, .int .i64 q2715.To, .int .i64 q2715.Delay, .int .i64 q2715.Tokens]] := hs
                        refine mYp (i := 0) rfl (by kernel_rfl) (by kernel_rfl) hf rfl rfl rfl (fun _ => Y_move rfl rfl) ?_; clear hf; intro a hf
                        refine mYp (i := 1) rfl (by kernel_rfl) (by kernel_rfl) hf rfl rfl rfl (fun _ => Y_move rfl rfl) ?_; clear hf; intro a hf
                        obtain ⟨q2724, hi2725, hm2712⟩ := bind_some hm2712
                        obtain ⟨hi2725a, hi2725b, hi2725q⟩ := idx_some hi2725
                        obtain ⟨A2726, c2727, hv2728⟩ := hs.matRow (i := 2) rfl hi2725q
                        refine mYp (i := 2) rfl (by kernel_rfl) (by kernel_rfl) hf rfl rfl rfl (fun _ => Y_index rfl rfl rfl el46 ti23 (Rd.isAt (hs.rdV (i := 2) rfl) hv2728) hi2725a (ltn hn2669 hi2725b)) ?_; clear hf; intro a hf
                        refine mY (i := 3) [[]] rfl (by kernel_rfl) (by kernel_rfl) hf hs0 rfl rfl rfl (Y_load_rd rfl rfl (fun w hs => hs.rdV (i := 2) rfl) (at1 hv2728) ag23) ?_; clear hf; intro a hf
                        refine mYp (i := 4) rfl (by kernel_rfl) (by kernel_rfl) hf rfl rfl rfl (fun _ => Y_move rfl rfl) ?_; clear hf; intro a hf
                        refine mYp (i := 5) rfl (by kernel_rfl) (by kernel_rfl) hf rfl rfl rfl (fun _ => Y_move rfl rfl) ?_; clear hf; intro a hf
                        refine mYp (i := 6) rfl (by kernel_rfl) (by kernel_rfl) hf rfl rfl rfl (fun _ => Y_move rfl rfl) ?_; clear hf; intro a hf
                        obtain ⟨q2729, hi2730, hm2712⟩ := bind_some hm2712
                        obtain ⟨hi2730a, hi2730b, hi2730q⟩ := idx_some hi2730
                        obtain ⟨A2731, c2732, hv2733⟩ := hs.matRow (i := 2) rfl hi2730q
                        refine mYp (i := 7) rfl (by kernel_rfl) (by kernel_rfl) hf rfl rfl rfl (fun _ => Y_index rfl rfl rfl el46 ti23 (Rd.isAt (hs.rdV (i := 2) rfl) hv2733) hi2730a (ltn hn2669 hi2730b)) ?_; clear hf; intro a hf
                        refine mY (i := 8) [[]] rfl (by kernel_rfl) (by kernel_rfl) hf hs0 rfl rfl rfl (Y_load_rd rfl rfl (fun w hs => hs.rdV (i := 2) rfl) (at1 hv2733) ag23) ?_; clear hf; intro a hf
                        refine mYp (i := 9) rfl (by kernel_rfl) (by kernel_rfl) hf rfl rfl rfl (fun _ => Y_move rfl rfl) ?_; clear hf; intro a hf
                        obtain ⟨q2734, hi2735, hm2712⟩ := bind_some hm2712
                        obtain ⟨hi2735a, hi2735b, hi2735q⟩ := idx_some hi2735
                        refine mYp (i := 10) rfl (by kernel_rfl) (by kernel_rfl) hf rfl rfl rfl (fun _ => Y_index rfl rfl rfl el23 ti2 (Rd.isAt (hs.rdRow (i := 2) rfl ⟨hi2730q, hv2733⟩) (at1 (ints_at hi2735q))) hi2735a hi2735b) ?_; clear hf; intro a hf
                        refine mY (i := 11) [[]] rfl (by kernel_rfl) (by kernel_rfl) hf hs0 rfl rfl rfl (Y_load_rd rfl rfl (fun w hs => hs.rdRow (i := 2) rfl ⟨hi2730q, hv2733⟩) (at1 (ints_at hi2735q)) ag2) ?_; clear hf; intro a hf
                        refine mYp (i := 12) rfl (by kernel_rfl) (by kernel_rfl) hf rfl rfl rfl (fun _ => Y_move rfl rfl) ?_; clear hf; intro a hf
                        refine mYp (i := 13) rfl (by kernel_rfl) (by kernel_rfl) hf rfl rfl rfl (fun _ => Y_move rfl rfl) ?_; clear hf; intro a hf
                        refine mYp (i := 14) rfl (by kernel_rfl) (by kernel_rfl) hf rfl rfl rfl (fun _ => Y_fieldAddr rfl rfl fo96_3) ?_; clear hf; intro a hf
                        refine mY (i := 15) [[]] rfl (by kernel_rfl) (by kernel_rfl) hf hs0 rfl rfl rfl (Y_load_blk rfl rfl (i := 3) rfl rfl ag2) ?_; clear hf; intro a hf
                        refine mYp (i := 16) rfl (by kernel_rfl) (by kernel_rfl) hf rfl rfl rfl (fun _ => Y_sub rfl rfl rfl) ?_; clear hf; intro a hf
                        obtain ⟨q2736, hi2737, hm2712⟩ := bind_some hm2712
                        obtain ⟨hi2737a, hi2737b, hi2737q⟩ := idx_some hi2737
                        obtain ⟨A2738, c2739, hv2740⟩ := hs.matRow (i := 2) rfl hi2737q
                        refine mYp (i := 17) rfl (by kernel_rfl) (by kernel_rfl) hf rfl rfl rfl (fun _ => Y_index rfl rfl rfl el46 ti23 (Rd.isAt (hs.rdV (i := 2) rfl) hv2740) hi2737a (ltn hn2669 hi2737b)) ?_; clear hf; intro a hf
                        refine mY (i := 18) [[]] rfl (by kernel_rfl) (by kernel_rfl) hf hs0 rfl rfl rfl (Y_load_rd rfl rfl (fun w hs => hs.rdV (i := 2) rfl) (at1 hv2740) ag23) ?_; clear hf; intro a hf
                        refine mYp (i := 19) rfl (by kernel_rfl) (by kernel_rfl) hf rfl rfl rfl (fun _ => Y_fieldAddr rfl rfl fo96_0) ?_; clear hf; intro a hf
                        refine mY (i := 20) [[]] rfl (by kernel_rfl) (by kernel_rfl) hf hs0 rfl rfl rfl (Y_load_blk rfl rfl (i := 3) rfl rfl ag2) ?_; clear hf; intro a hf
                        obtain ⟨q2741, hi2742, hm2712⟩ := bind_some hm2712
                        obtain ⟨hi2742a, hi2742b, hi2742q⟩ := idx_some hi2742
                        refine mYp (i := 21) rfl (by kernel_rfl) (by kernel_rfl) hf rfl rfl rfl (fun _ => Y_index rfl rfl rfl el23 ti2 (Rd.isAt (hs.rdRow (i := 2) rfl ⟨hi2737q, hv2740⟩) (at1 (ints_at hi2742q))) hi2742a hi2742b) ?_; clear hf; intro a hf
                        refine mY (i := 22) [[]] rfl (by kernel_rfl) (by kernel_rfl) hf hs0 rfl rfl rfl (Y_load_rd rfl rfl (fun w hs => hs.rdRow (i := 2) rfl ⟨hi2737q, hv2740⟩) (at1 (ints_at hi2742q)) ag2) ?_; clear hf; intro a hf
                        refine mYp (i := 23) rfl (by kernel_rfl) (by kernel_rfl) hf rfl rfl rfl (fun _ => Y_fieldAddr rfl rfl fo96_2) ?_; clear hf; intro a hf
                        refine mY (i := 24) [[]] rfl (by kernel_rfl) (by kernel_rfl) hf hs0 rfl rfl rfl (Y_load_blk rfl rfl (i := 3) rfl rfl ag2) ?_; clear hf; intro a hf
                        refine mYp (i := 25) rfl (by kernel_rfl) (by kernel_rfl) hf rfl rfl rfl (fun _ => Y_add rfl rfl rfl) ?_; clear hf; intro a hf
                        refine mYp (i := 26) rfl (by kernel_rfl) (by kernel_rfl) hf rfl rfl rfl (fun _ => Y_max rfl rfl rfl) ?_; clear hf; intro a hf
                        obtain ⟨q2743, hi2744, hm2712⟩ := bind_some hm2712
                        obtain ⟨hi2744a, hi2744b, hi2744q⟩ := idx_some hi2744
                        refine mYp (i := 27) rfl (by kernel_rfl) (by kernel_rfl) hf rfl rfl rfl (fun _ => Y_index rfl rfl rfl el23 ti2 (Rd.isAt (hs.rdRow (i := 2) rfl ⟨hi2725q, hv2728⟩) (at1 (ints_at hi2744q))) hi2744a hi2744b) ?_; clear hf; intro a hf
                        refine mRun (i := 28) rfl (by kernel_rfl) ?_
                        obtain ⟨xs2745, hu2747, hm2712⟩ := bind_some hm2712
                        obtain ⟨ms2746, hu2748, hm2712⟩ := bind_some hm2712
                        refine sStoreM (i := 2) (k := x1382) hf hs rfl rfl rfl rfl rfl rfl hi2725q hv2728 rfl hu2747 hu2748 ti2 ?_; clear hs; intro w hs
                        obtain ⟨hq2749, hv2750⟩ := rowUpd hu2747 hu2748 hv2728
                        have hs : St [] W w [.blk b1 39 [.int .i64 p0.Events, .slice A_p0_1 p0.Places.length c_p0_1], .row A4 n5 c6 2 1 (ints r2.1), .mat A2081 ms2083.length c2082 23 2 (vs1381 ++ ([.slice A2075 r2073.length c2077])) ms2746, .blk b2717 96 [.int .i64 q2715.From, .int .i64 q2715.To, .int .i64 q2715.Delay, .int .i64 q2715.Tokens]] := hs
                        refine wpO_nil ⟨Or.inl (by decide), ?_⟩
                        refine mDone (by kernel_rfl) ?_
                        clear hs0
                        refine wpL_nil (Qb_normal ?_)
                        refine wpL_region ?_
                        refine sY hf hs rfl rfl rfl (Y_add rfl rfl rfl) ?_; clear hf; intro a hf
                        refine sY hf hs rfl rfl rfl (Y_move rfl rfl) ?_; clear hf; intro a hf
                        refine wpO_nil ?_
                        refine wpL_nil (Ql_normal ?_)
                        exact ⟨ms2746, (IntKind.i64.wrap (x2670 + 1)), hm2712, ((hn2669).trans (upd_len hu2748).symm), (FrD.pick (FrD.pick (FrD.pick (FrD.pick (FrD.pick (FrD.pick (FrD.pick (FrD.pick (FrD.pick (FrD.pick (FrD.pick (FrD.pick (FrD.pick (FrD.pick hf.none hf rfl) hf rfl) hf rfl) hf rfl) hf rfl) hf rfl) hf rfl) hf rfl) hf rfl) hf rfl) hf rfl) hf rfl) hf rfl) hf rfl), hs.sel [0, 1, 2] (by decide)⟩
                      · have hm2712 := bif_f hm2712 hb2723
                        refine wpL_skip ?_
                        refine wpL_nil (Qb_normal ?_)
                        refine wpL_region ?_
                        refine sY hf hs rfl rfl rfl (Y_add rfl rfl rfl) ?_; clear hf; intro a hf
                        refine sY hf hs rfl rfl rfl (Y_move rfl rfl) ?_; clear hf; intro a hf
                        refine wpO_nil ?_
                        refine wpL_nil (Ql_normal ?_)
                        exact ⟨ms2668, (IntKind.i64.wrap (x2670 + 1)), hm2712, hn2669, (FrD.pick (FrD.pick (FrD.pick (FrD.pick (FrD.pick (FrD.pick (FrD.pick (FrD.pick (FrD.pick (FrD.pick (FrD.pick (FrD.pick (FrD.pick (FrD.pick hf.none hf rfl) hf rfl) hf rfl) hf rfl) hf rfl) hf rfl) hf rfl) hf rfl) hf rfl) hf rfl) hf rfl) hf rfl) hf rfl) hf rfl), hs.sel [0, 1, 2] (by decide)⟩
                  · have hm2712 := bif_f hm2712 hb2714
                    refine wpL_exit (Ql_exit (Qb_exit ?_))
                    exact ⟨ms2668, Option.some.inj hm2712, hn2669, (FrD.pick (FrD.pick (FrD.pick (FrD.pick (FrD.pick (FrD.pick (FrD.pick (FrD.pick (FrD.pick (FrD.pick hf.none hf rfl) hf rfl) hf rfl) hf rfl) hf rfl) hf rfl) hf rfl) hf rfl) hf rfl) hf rfl), hs⟩
              · rintro a w ⟨ms2708, hr_, hn2709, hf, hs⟩
                subst hr_
                try dsimp only at hm2586
                refine wpL_nil (Qb_normal ?_)
                refine wpL_region ?_
                refine sY hf hs rfl rfl rfl (Y_add rfl rfl rfl) ?_; clear hf; intro a hf
                refine sY hf hs rfl rfl rfl (Y_move rfl rfl) ?_; clear hf; intro a hf
                refine wpO_nil ?_
                refine wpL_nil (Ql_normal ?_)
                exact ⟨ms2708, (IntKind.i64.wrap (x2418 + 1)), hm2586, hn2709, (FrD.pick (FrD.pick (FrD.pick (FrD.pick (FrD.pick (FrD.pick (FrD.pick (FrD.pick (FrD.pick (FrD.pick hf.none hf rfl) hf rfl) hf rfl) hf rfl) hf rfl) hf rfl) hf rfl) hf rfl) hf rfl) hf rfl), hs⟩
            · have hm2586 := bif_f hm2586 hb2588
              refine wpL_exit (Ql_exit (Qb_exit ?_))
              exact ⟨ms2416, Option.some.inj hm2586, hn2417, (FrD.pick (FrD.pick (FrD.pick (FrD.pick (FrD.pick (FrD.pick hf.none hf rfl) hf rfl) hf rfl) hf rfl) hf rfl) hf rfl), hs⟩
        · rintro a w ⟨ms2582, hr_, hn2583, hf, hs⟩
          subst hr_
          try dsimp only at hm2070
          refine wpL_nil (Qb_normal ?_)
          refine wpL_region ?_
          refine sY hf hs rfl rfl rfl (Y_add rfl rfl rfl) ?_; clear hf; intro a hf
          refine sY hf hs rfl rfl rfl (Y_move rfl rfl) ?_; clear hf; intro a hf
          refine wpO_nil ?_
          refine wpL_nil (Ql_normal ?_)
          exact ⟨ms2582, (IntKind.i64.wrap (x1382 + 1)), A2081, ms2083.length, c2082, (vs1381 ++ ([.slice A2075 r2073.length c2077])), hm2070, hn2583, (FrD.pick (FrD.pick (FrD.pick (FrD.pick (FrD.pick (FrD.pick hf.none hf rfl) hf rfl) hf rfl) hf rfl) hf rfl) hf rfl), hs⟩
      · have hm2070 := bif_f hm2070 hb2072
        refine wpL_exit (Ql_exit (Qb_exit ?_))
        exact ⟨ms1376, A1377, n1378, c1379, vs1381, Option.some.inj hm2070, hn1380, (FrD.pick hf.none hf rfl), hs.sel [2] (by decide)⟩
  · rintro a w ⟨ms2062, A2063, n2064, c2065, vs2067, hr_, hn2066, hf, hs⟩
    subst hr_
    try dsimp only at hm
    refine wpL_seq ?_
    refine wpL_region ?_
    refine sY hf hs rfl rfl rfl (Y_move rfl rfl) ?_; clear hf; intro a hf
    refine sY hf hs rfl rfl rfl (Y_assign rfl rfl) ?_; clear hf; intro a hf
    refine wpO_nil ?_
    obtain rfl := Option.some.inj hm
    refine wpL_ret (ret_tmp rfl hf rfl ?_)
    exact ⟨_, rfl, A2063, n2064, c2065, vs2067, rfl, hn2066, hs⟩

set_option maxRecDepth 100000 in
theorem impl_floatsOf_ok (F : Nat) (p0_g : GEventGraph) (A_p0_g_1 : Option Addr) (n_p0_g_1 c_p0_g_1 : Nat) (hn_p0_g_1 : n_p0_g_1 = p0_g.Places.length) (p1_due : List (List Int)) (A_p1_due_1 : Option Addr) (n_p1_due_1 c_p1_due_1 : Nat) (hn_p1_due_1 : n_p1_due_1 = p1_due.length) (r : List (List Int)) (W : World) (hm : impl_floatsOf F p0_g p1_due = some r) (h_p0_g_1 : Rd W A_p0_g_1 ((recs GPlace.cells) p0_g.Places)) (h_p1_due_1 : RdM W A_p1_due_1 p1_due) :
    Calls Try.prog 129 [.agg #[.int .i64 p0_g.Events, .slice A_p0_g_1 n_p0_g_1 c_p0_g_1], .slice A_p1_due_1 n_p1_due_1 c_p1_due_1].toArray W fun e w' => ∃ v, e = .returned v ∧ ∃ A401, ∃ n402, ∃ c403, ∃ vs405, v = .slice A401 n402 c403 ∧ n402 = r.length ∧ St [] W w' [.mat A401 n402 c403 23 2 vs405 r] := by
  subst hn_p0_g_1
  subst hn_p1_due_1
  unfold impl_floatsOf at hm
  refine Calls.enter (N := 46) Try.func129 rfl rfl rfl (fun a hf => ?_)
  have hs := St.start W
  obtain ⟨w, hw_⟩ : ∃ w, w = W := ⟨W, rfl⟩
  clear hw_ w
  refine wpL_seq ?_
  refine wpL_region ?_
  refine sBox hf hs rfl rfl rfl rfl rfl (cs := [.int .i64 p0_g.Events, .slice A_p0_g_1 p0_g.Places.length c_p0_g_1]) rfl ?_; clear hf hs; intro a w b1 hs hf
  have hs : St [] W w [.blk b1 39 [.int .i64 p0_g.Events, .slice A_p0_g_1 p0_g.Places.length c_p0_g_1]] := hs
  refine sY hf hs rfl rfl rfl (Y_assign rfl rfl) ?_; clear hf; intro a hf
  refine wpO_nil ?_
  refine wpL_seq ?_
  refine wpL_region ?_
  refine sY hf hs rfl rfl rfl (Y_load_blkS rfl rfl (i := 0) rfl ag39 ti39 rfl) ?_; clear hf; intro a hf
  refine sY hf hs rfl rfl rfl (Y_move rfl rfl) ?_; clear hf; intro a hf
  obtain ⟨r2, hc3, hm⟩ := bind_some hm
  refine sCall hf rfl rfl rfl rfl (cap := []) rfl rfl en127 (impl_latestTimes_ok F p0_g A_p0_g_1 p0_g.Places.length c_p0_g_1 rfl p1_due A_p1_due_1 p1_due.length c_p1_due_1 rfl _ _ hc3 (h_p0_g_1.at hs) (h_p1_due_1.at hs)) ?_; clear hf
  rintro _ w ⟨A4, n5, c6, vs8, rfl, hn7, hs1⟩ a hf
  have hs : St [] W w [.blk b1 39 [.int .i64 p0_g.Events, .slice A_p0_g_1 p0_g.Places.length c_p0_g_1], .mat A4 n5 c6 23 2 vs8 r2] := hs.join hs1
  clear hs1
  refine sY hf hs rfl rfl rfl (Y_assign rfl rfl) ?_; clear hf; intro a hf
  refine wpO_nil ?_
  refine wpL_seq ?_
  refine wpL_seq ?_
  refine wpL_drawM [.blk b1 39 [.int .i64 p0_g.Events, .slice A_p0_g_1 p0_g.Places.length c_p0_g_1], .mat A4 n5 c6 23 2 vs8 r2] [6] (by kernel_rfl) hs ?_; clear hs; intro w hs
  have hs0 : St [] W w [.blk b1 39 [.int .i64 p0_g.Events, .slice A_p0_g_1 p0_g.Places.length c_p0_g_1], .mat A4 n5 c6 23 2 vs8 r2] := hs
  refine mY (i := 0) [[]] rfl (by kernel_rfl) (by kernel_rfl) hf hs0 rfl rfl rfl (Y_load_blkS rfl rfl (i := 0) rfl ag39 ti39 rfl) ?_; clear hf; intro a hf
  refine mYp (i := 1) rfl (by kernel_rfl) (by kernel_rfl) hf rfl rfl rfl (fun _ => Y_move rfl rfl) ?_; clear hf; intro a hf
  refine mYp (i := 2) rfl (by kernel_rfl) (by kernel_rfl) hf rfl rfl rfl (fun _ => Y_lenH rfl rfl el46 rfl) ?_; clear hf; intro a hf
  refine mYp (i := 3) rfl (by kernel_rfl) (by kernel_rfl) hf rfl rfl rfl (fun _ => Y_fieldAddr rfl rfl fo39_0) ?_; clear hf; intro a hf
  refine mY (i := 4) [[5]] rfl (by kernel_rfl) (by kernel_rfl) hf hs0 rfl rfl rfl (Y_load_blk rfl rfl (i := 0) rfl rfl ag2) ?_; clear hf; intro a hf
  refine mYp (i := 8) rfl (by kernel_rfl) (by kernel_rfl) hf rfl rfl rfl (fun _ => Y_move rfl rfl) ?_; clear hf; intro a hf
  refine mRun (i := 5) rfl (by kernel_rfl) ?_
  obtain ⟨xs21, hk20, hm⟩ := bind_some hm
  refine sMakeL (enc := ints) hf hs rfl rfl rfl rfl rfl hk20 el23 ti2 rfl ints_made ?_; clear hf hs; intro a w A19 hs hf
  have hs : St [] W w [.blk b1 39 [.int .i64 p0_g.Events, .slice A_p0_g_1 p0_g.Places.length c_p0_g_1], .mat A4 n5 c6 23 2 vs8 r2, .row A19 xs21.length xs21.length 2 1 (ints xs21)] := hs
  have hs0 : St [] W w [.blk b1 39 [.int .i64 p0_g.Events, .slice A_p0_g_1 p0_g.Places.length c_p0_g_1], .mat A4 n5 c6 23 2 vs8 r2] := hs.sel [0, 1] (by decide)
  refine wpO_nil ⟨Or.inr (fun _ => hs0), ?_⟩
  refine mRun (i := 6) rfl (by kernel_rfl) ?_
  obtain ⟨r22, hc23, hm⟩ := bind_some hm
  refine sCall hf rfl rfl rfl rfl (cap := []) rfl rfl en176 (impl_firingTimes_ok F p0_g A_p0_g_1 p0_g.Places.length c_p0_g_1 rfl (p1_due.length : Int) xs21 A19 xs21.length xs21.length rfl _ _ hc23 (h_p0_g_1.at hs) (hs.rd (i := 2) rfl)) ?_; clear hf
  rintro _ w ⟨A24, n25, c26, vs28, rfl, hn27, hs1⟩ a hf
  have hs : St [] W w [.blk b1 39 [.int .i64 p0_g.Events, .slice A_p0_g_1 p0_g.Places.length c_p0_g_1], .mat A4 n5 c6 23 2 vs8 r2, .row A19 xs21.length xs21.length 2 1 (ints xs21), .mat A24 n25 c26 23 2 vs28 r22] := hs.join hs1
  clear hs1
  refine wpO_nil ⟨Or.inl (by decide), ?_⟩
  refine mYp (i := 7) rfl (by kernel_rfl) (by kernel_rfl) hf rfl rfl rfl (fun _ => Y_lenH rfl rfl el46 hn27) ?_; clear hf; intro a hf
  refine mDone (by kernel_rfl) ?_
  clear hs0
  obtain ⟨r307, hl308, hm⟩ := bind_some hm
  refine wpL_block (fun a w => ∃ ms305 : List (List Int), ms305 = r307 ∧ n5 = ms305.length ∧ Fr a 46 [(5, .slice A4 n5 c6)] ∧ St [] W w [.mat A4 n5 c6 23 2 vs8 ms305]) ?_ ?_
  · refine wpL_loop (fun n a w => ∃ ms212 : List (List Int), ∃ x214 : Int, impl_floatsOf_L4 F r22 n ms212 x214 = some r307 ∧ n5 = ms212.length ∧ Fr a 46 [(5, .slice A4 n5 c6), (19, .slice A24 n25 c26), (20, .int .i64 (r22.length : Int)), (21, .int .i64 x214)] ∧ St [] W w [.mat A4 n5 c6 23 2 vs8 ms212, .mat A24 n25 c26 23 2 vs28 r22]) F ?_ ?_ ?_
    · exact ⟨r2, 0, hl308, hn7, (FrD.pick (FrD.pick (FrD.pick (FrD.pick hf.none hf rfl) hf rfl) hf rfl) hf rfl), hs.sel [1, 3] (by decide)⟩
    · rintro a w ⟨ms212, x214, h0_, -, -, -⟩; simp [impl_floatsOf_L4] at h0_
    · rintro n310 a w ⟨ms212, x214, hm309, hn213, hf, hs⟩
      rw [impl_floatsOf_L4] at hm309
      refine wpL_seq ?_
      refine wpL_region ?_
      refine sY hf hs rfl rfl rfl (Y_lss rfl rfl rfl) ?_; clear hf; intro a hf
      refine wpO_nil ?_
      refine wpL_seq ?_
      refine wpL_cond hf rfl (fun hb311 => ?_) (fun hb311 => ?_)
      · have hm309 := bif_t hm309 hb311
        refine wpL_skip ?_
        refine wpL_seq ?_
        refine wpL_block0 ?_
        refine wpL_seq ?_
        refine wpL_region ?_
        refine sY hf hs rfl rfl rfl (Y_move rfl rfl) ?_; clear hf; intro a hf
        obtain ⟨q312, hi313, hm309⟩ := bind_some hm309
        obtain ⟨hi313a, hi313b, hi313q⟩ := idx_some hi313
        obtain ⟨A314, c315, hv316⟩ := hs.matRow (i := 1) rfl hi313q
        refine sY hf hs rfl rfl rfl (Y_index rfl rfl rfl el46 ti23 (Rd.isAt (hs.rdV (i := 1) rfl) hv316) hi313a (ltn hn27 hi313b)) ?_; clear hf; intro a hf
        refine sY hf hs rfl rfl rfl (Y_load_rd rfl rfl (fun w hs => hs.rdV (i := 1) rfl) (at1 hv316) ag23) ?_; clear hf; intro a hf
        refine sY hf hs rfl rfl rfl (Y_assign rfl rfl) ?_; clear hf; intro a hf
        refine sY hf hs rfl rfl rfl (Y_assign rfl rfl) ?_; clear hf; intro a hf
        refine wpO_nil ?_
        refine wpL_seq ?_
        refine wpL_region ?_
        refine sY hf hs rfl rfl rfl (Y_move rfl rfl) ?_; clear hf; intro a hf
        refine sY hf hs rfl rfl rfl (Y_lenH rfl rfl el23 rfl) ?_; clear hf; intro a hf
        refine sY hf hs rfl rfl rfl (Y_move rfl rfl) ?_; clear hf; intro a hf
        refine wpO_nil ?_
        obtain ⟨r379, hl380, hm309⟩ := bind_some hm309
        refine wpL_block (fun a w => ∃ ms377 : List (List Int), ms377 = r379 ∧ n5 = ms377.length ∧ Fr a 46 [(5, .slice A4 n5 c6), (19, .slice A24 n25 c26), (20, .int .i64 (r22.length : Int)), (21, .int .i64 x214)] ∧ St [] W w [.mat A4 n5 c6 23 2 vs8 ms377, .mat A24 n25 c26 23 2 vs28 r22]) ?_ ?_
        · refine wpL_loop (fun n a w => ∃ ms356 : List (List Int), ∃ x358 : Int, impl_floatsOf_L5 F x214 q312 n ms356 x358 = some r379 ∧ n5 = ms356.length ∧ Fr a 46 [(5, .slice A4 n5 c6), (6, .int .i64 x214), (19, .slice A24 n25 c26), (20, .int .i64 (r22.length : Int)), (21, .int .i64 x214), (26, .slice A314 q312.length c315), (27, .int .i64 (q312.length : Int)), (28, .int .i64 x358)] ∧ St [] W w [.mat A4 n5 c6 23 2 vs8 ms356, .mat A24 n25 c26 23 2 vs28 r22]) F ?_ ?_ ?_
          · exact ⟨ms212, 0, hl380, hn213, (FrD.pick (FrD.pick (FrD.pick (FrD.pick (FrD.pick (FrD.pick (FrD.pick (FrD.pick hf.none hf rfl) hf rfl) hf rfl) hf rfl) hf rfl) hf rfl) hf rfl) hf rfl), hs⟩
          · rintro a w ⟨ms356, x358, h0_, -, -, -⟩; simp [impl_floatsOf_L5] at h0_
          · rintro n382 a w ⟨ms356, x358, hm381, hn357, hf, hs⟩
            rw [impl_floatsOf_L5] at hm381
            refine wpL_seq ?_
            refine wpL_region ?_
            refine sY hf hs rfl rfl rfl (Y_lss rfl rfl rfl) ?_; clear hf; intro a hf
            refine wpO_nil ?_
            refine wpL_seq ?_
            refine wpL_cond hf rfl (fun hb383 => ?_) (fun hb383 => ?_)
            · have hm381 := bif_t hm381 hb383
              refine wpL_skip ?_
              refine wpL_seq ?_
              refine wpL_block0 ?_
              refine wpL_seq ?_
              refine wpL_region ?_
              refine sY hf hs rfl rfl rfl (Y_move rfl rfl) ?_; clear hf; intro a hf
              obtain ⟨q384, hi385, hm381⟩ := bind_some hm381
              obtain ⟨hi385a, hi385b, hi385q⟩ := idx_some hi385
              refine sY hf hs rfl rfl rfl (Y_index rfl rfl rfl el23 ti2 (Rd.isAt (hs.rdRow (i := 1) rfl ⟨hi313q, hv316⟩) (at1 (ints_at hi385q))) hi385a hi385b) ?_; clear hf; intro a hf
              refine sY hf hs rfl rfl rfl (Y_load_rd rfl rfl (fun w hs => hs.rdRow (i := 1) rfl ⟨hi313q, hv316⟩) (at1 (ints_at hi385q)) ag2) ?_; clear hf; intro a hf
              refine sY hf hs rfl rfl rfl (Y_assign rfl rfl) ?_; clear hf; intro a hf
              refine sY hf hs rfl rfl rfl (Y_assign rfl rfl) ?_; clear hf; intro a hf
              refine wpO_nil ?_
              refine wpL_region ?_
              refine sY hf hs rfl rfl rfl (Y_move rfl rfl) ?_; clear hf; intro a hf
              refine sY hf hs rfl rfl rfl (Y_move rfl rfl) ?_; clear hf; intro a hf
              obtain ⟨q386, hi387, hm381⟩ := bind_some hm381
              obtain ⟨hi387a, hi387b, hi387q⟩ := idx_some hi387
              obtain ⟨A388, c389, hv390⟩ := hs.matRow (i := 0) rfl hi387q
              refine sY hf hs rfl rfl rfl (Y_index rfl rfl rfl el46 ti23 (Rd.isAt (hs.rdV (i := 0) rfl) hv390) hi387a (ltn hn357 hi387b)) ?_; clear hf; intro a hf
              refine sY hf hs rfl rfl rfl (Y_load_rd rfl rfl (fun w hs => hs.rdV (i := 0) rfl) (at1 hv390) ag23) ?_; clear hf; intro a hf
              refine sY hf hs rfl rfl rfl (Y_move rfl rfl) ?_; clear hf; intro a hf
              obtain ⟨q391, hi392, hm381⟩ := bind_some hm381
              obtain ⟨hi392a, hi392b, hi392q⟩ := idx_some hi392
              refine sY hf hs rfl rfl rfl (Y_index rfl rfl rfl el23 ti2 (Rd.isAt (hs.rdRow (i := 0) rfl ⟨hi387q, hv390⟩) (at1 (ints_at hi392q))) hi392a hi392b) ?_; clear hf; intro a hf
              refine sY hf hs rfl rfl rfl (Y_load_rd rfl rfl (fun w hs => hs.rdRow (i := 0) rfl ⟨hi387q, hv390⟩) (at1 (ints_at hi392q)) ag2) ?_; clear hf; intro a hf
              refine sY hf hs rfl rfl rfl (Y_move rfl rfl) ?_; clear hf; intro a hf
              refine sY hf hs rfl rfl rfl (Y_sub rfl rfl rfl) ?_; clear hf; intro a hf
              obtain ⟨q393, hi394, hm381⟩ := bind_some hm381
              obtain ⟨hi394a, hi394b, hi394q⟩ := idx_some hi394
              refine sY hf hs rfl rfl rfl (Y_index rfl rfl rfl el23 ti2 (Rd.isAt (hs.rdRow (i := 0) rfl ⟨hi387q, hv390⟩) (at1 (ints_at hi394q))) hi394a hi394b) ?_; clear hf; intro a hf
              obtain ⟨xs395, hu397, hm381⟩ := bind_some hm381
              obtain ⟨ms396, hu398, hm381⟩ := bind_some hm381
              refine sStoreM (i := 0) (k := x214) hf hs rfl rfl rfl rfl rfl rfl hi387q hv390 rfl hu397 hu398 ti2 ?_; clear hs; intro w hs
              obtain ⟨hq399, hv400⟩ := rowUpd hu397 hu398 hv390
              have hs : St [] W w [.mat A4 n5 c6 23 2 vs8 ms396, .mat A24 n25 c26 23 2 vs28 r22] := hs
              refine wpO_nil ?_
              refine wpL_nil (Qb_normal ?_)
              refine wpL_region ?_
              refine sY hf hs rfl rfl rfl (Y_add rfl rfl rfl) ?_; clear hf; intro a hf
              refine sY hf hs rfl rfl rfl (Y_move rfl rfl) ?_; clear hf; intro a hf
              refine wpO_nil ?_
              refine wpL_nil (Ql_normal ?_)
              exact ⟨ms396, (IntKind.i64.wrap (x358 + 1)), hm381, ((hn357).trans (upd_len hu398).symm), (FrD.pick (FrD.pick (FrD.pick (FrD.pick (FrD.pick (FrD.pick (FrD.pick (FrD.pick hf.none hf rfl) hf rfl) hf rfl) hf rfl) hf rfl) hf rfl) hf rfl) hf rfl), hs⟩
            · have hm381 := bif_f hm381 hb383
              refine wpL_exit (Ql_exit (Qb_exit ?_))
              exact ⟨ms356, Option.some.inj hm381, hn357, (FrD.pick (FrD.pick (FrD.pick (FrD.pick hf.none hf rfl) hf rfl) hf rfl) hf rfl), hs⟩
        · rintro a w ⟨ms377, hr_, hn378, hf, hs⟩
          subst hr_
          try dsimp only at hm309
          refine wpL_nil (Qb_normal ?_)
          refine wpL_region ?_
          refine sY hf hs rfl rfl rfl (Y_add rfl rfl rfl) ?_; clear hf; intro a hf
          refine sY hf hs rfl rfl rfl (Y_move rfl rfl) ?_; clear hf; intro a hf
          refine wpO_nil ?_
          refine wpL_nil (Ql_normal ?_)
          exact ⟨ms377, (IntKind.i64.wrap (x214 + 1)), hm309, hn378, (FrD.pick (FrD.pick (FrD.pick (FrD.pick hf.none hf rfl) hf rfl) hf rfl) hf rfl), hs⟩
      · have hm309 := bif_f hm309 hb311
        refine wpL_exit (Ql_exit (Qb_exit ?_))
        exact ⟨ms212, Option.some.inj hm309, hn213, (FrD.pick hf.none hf rfl), hs.sel [0] (by decide)⟩
  · rintro a w ⟨ms305, hr_, hn306, hf, hs⟩
    subst hr_
    try dsimp only at hm
    refine wpL_seq ?_
    refine wpL_region ?_
    refine sY hf hs rfl rfl rfl (Y_move rfl rfl) ?_; clear hf; intro a hf
    refine sY hf hs rfl rfl rfl (Y_assign rfl rfl) ?_; clear hf; intro a hf
    refine wpO_nil ?_
    obtain rfl := Option.some.inj hm
    refine wpL_ret (ret_tmp rfl hf rfl ?_)
    exact ⟨_, rfl, A4, n5, c6, vs8, rfl, hn306, hs⟩

set_option maxRecDepth 100000 in
theorem impl_CriticalFirings_c1_ok (F : Nat) (p0_k : Int) (p1_event : Int) (b_z0 : Nat) (z0 : List (List Int)) (A_z0_1 : Option Addr) (n_z0_1 c_z0_1 : Nat) (hn_z0_1 : n_z0_1 = z0.length) (r : Bool) (W : World) (hm : impl_CriticalFirings_c1 F p0_k p1_event z0 = some r) (h_z0_1 : RdM W A_z0_1 z0) (h_z0 : PB W b_z0 46 [.slice A_z0_1 n_z0_1 c_z0_1]) :
    Calls Try.prog 132 [.int .i64 p0_k, .int .i64 p1_event, .pointer (some ⟨b_z0, 0, none⟩)].toArray W fun e w' => ∃ v, e = .returned v ∧ v = .bool r ∧ St [] W w' [] := by
  subst hn_z0_1
  unfold impl_CriticalFirings_c1 at hm
  refine Calls.enter (N := 14) Try.func132 rfl rfl rfl (fun a hf => ?_)
  have hs := St.start W
  obtain ⟨w, hw_⟩ : ∃ w, w = W := ⟨W, rfl⟩
  clear hw_ w
  refine wpL_seq ?_
  refine wpL_region ?_
  refine sY hf hs rfl rfl rfl (Y_assign rfl rfl) ?_; clear hf; intro a hf
  refine wpO_nil ?_
  refine wpL_seq ?_
  refine wpL_region ?_
  refine sY hf hs rfl rfl rfl (Y_load_pb rfl rfl h_z0 rfl ag46) ?_; clear hf; intro a hf
  refine sY hf hs rfl rfl rfl (Y_move rfl rfl) ?_; clear hf; intro a hf
  obtain ⟨q1, hi2, hm⟩ := bind_some hm
  obtain ⟨hi2a, hi2b, hi2q⟩ := idx_some hi2
  obtain ⟨vs3, hv4, hr5⟩ := id h_z0_1
  obtain ⟨A6, c7, hv8, hR9⟩ := hr5 _ _ hi2q
  refine sY hf hs rfl rfl rfl (Y_index rfl rfl rfl el46 ti23 (Rd.isAt hv4 hv8) hi2a hi2b) ?_; clear hf; intro a hf
  refine sY hf hs rfl rfl rfl (Y_load_rd rfl rfl (fun w hs => hv4.at hs) (at1 hv8) ag23) ?_; clear hf; intro a hf
  refine sY hf hs rfl rfl rfl (Y_move rfl rfl) ?_; clear hf; intro a hf
  obtain ⟨q10, hi11, hm⟩ := bind_some hm
  obtain ⟨hi11a, hi11b, hi11q⟩ := idx_some hi11
  refine sY hf hs rfl rfl rfl (Y_index rfl rfl rfl el23 ti2 (Rd.isAt (hR9.at hs) (at1 (ints_at hi11q))) hi11a hi11b) ?_; clear hf; intro a hf
  refine sY hf hs rfl rfl rfl (Y_load_rd rfl rfl (fun w hs => hR9.at hs) (at1 (ints_at hi11q)) ag2) ?_; clear hf; intro a hf
  refine sY hf hs rfl rfl rfl (Y_eql rfl rfl rfl) ?_; clear hf; intro a hf
  refine sY hf hs rfl rfl rfl (Y_assign rfl rfl) ?_; clear hf; intro a hf
  refine wpO_nil ?_
  obtain rfl := Option.some.inj hm
  refine wpL_ret (ret_tmp rfl hf rfl ?_)
  exact ⟨_, rfl, rfl, hs⟩

set_option maxRecDepth 100000 in
theorem impl_firingsWith_ok (F : Nat) (p0_table : List (List Int)) (A_p0_table_1 : Option Addr) (n_p0_table_1 c_p0_table_1 : Nat) (hn_p0_table_1 : n_p0_table_1 = p0_table.length) (m_p1_has : Int → Int → Option Bool) (f_p1_has : FuncId) (k_p1_has : List Value) (r : List (List Int)) (W : World) (hm : impl_firingsWith F p0_table m_p1_has = some r) (h_p0_table_1 : RdM W A_p0_table_1 p0_table) (h_p1_has : ∀ (x0 : Int) (x1 : Int) (r : Bool) (w : World), m_p1_has x0 x1 = some r → Below W.heap.size W w → Calls Try.prog f_p1_has (([.int .i64 x0, .int .i64 x1] : List Value) ++ k_p1_has).toArray w fun e w' => ∃ v, e = .returned v ∧ v = .bool r ∧ St [] w w' []) (e_p1_has : En Try.prog f_p1_has) :
    Calls Try.prog 131 [.slice A_p0_table_1 n_p0_table_1 c_p0_table_1, .func (.func f_p1_has) #[] k_p1_has.toArray].toArray W fun e w' => ∃ v, e = .returned v ∧ ∃ A392, ∃ n393, ∃ c394, ∃ vs396, v = .slice A392 n393 c394 ∧ n393 = r.length ∧ St [] W w' [.mat A392 n393 c394 23 2 vs396 r] := by
  subst hn_p0_table_1
  unfold impl_firingsWith at hm
  refine Calls.enter (N := 35) Try.func131 rfl rfl rfl (fun a hf => ?_)
  have hs := St.start W
  obtain ⟨w, hw_⟩ : ∃ w, w = W := ⟨W, rfl⟩
  clear hw_ w
  refine wpL_seq ?_
  refine wpL_region ?_
  refine sY hf hs rfl rfl rfl (Y_assign rfl rfl) ?_; clear hf; intro a hf
  refine wpO_nil ?_
  refine wpL_seq ?_
  refine wpL_region ?_
  refine sY hf hs rfl rfl rfl (Y_assign rfl rfl) ?_; clear hf; intro a hf
  refine wpO_nil ?_
  refine wpL_seq ?_
  refine wpL_seq ?_
  refine wpL_region ?_
  refine sY hf hs rfl rfl rfl (Y_move rfl rfl) ?_; clear hf; intro a hf
  refine sY hf hs rfl rfl rfl (Y_lenH rfl rfl el46 rfl) ?_; clear hf; intro a hf
  refine sY hf hs rfl rfl rfl (Y_move rfl rfl) ?_; clear hf; intro a hf
  refine wpO_nil ?_
  obtain ⟨r297, hl298, hm⟩ := bind_some hm
  have hs : St [] W _ [.mat none 0 0 23 2 [] ([] : List (List Int))] := hs.addNilM 23 2
  refine wpL_block (fun a w => ∃ ms291 : List (List Int), ∃ A292, ∃ n293, ∃ c294, ∃ vs296, ms291 = r297 ∧ n293 = ms291.length ∧ Fr a 35 [(5, .slice A292 n293 c294)] ∧ St [] W w [.mat A292 n293 c294 23 2 vs296 ms291]) ?_ ?_
  · refine wpL_loop (fun n a w => ∃ ms194 : List (List Int), ∃ x200 : Int, ∃ A195, ∃ n196, ∃ c197, ∃ vs199, impl_firingsWith_L4 F p0_table m_p1_has n ms194 x200 = some r297 ∧ n196 = ms194.length ∧ Fr a 35 [(1, .func (.func f_p1_has) #[] k_p1_has.toArray), (5, .slice A195 n196 c197), (9, .slice A_p0_table_1 p0_table.length c_p0_table_1), (10, .int .i64 (p0_table.length : Int)), (11, .int .i64 x200)] ∧ St [] W w [.mat A195 n196 c197 23 2 vs199 ms194]) F ?_ ?_ ?_
    · exact ⟨([] : List (List Int)), 0, none, 0, 0, [], hl298, rfl, (FrD.pick (FrD.pick (FrD.pick (FrD.pick (FrD.pick hf.none hf rfl) hf rfl) hf rfl) hf rfl) hf rfl), hs⟩
    · rintro a w ⟨ms194, x200, A195, n196, c197, vs199, h0_, -, -, -⟩; simp [impl_firingsWith_L4] at h0_
    · rintro n300 a w ⟨ms194, x200, A195, n196, c197, vs199, hm299, hn198, hf, hs⟩
      rw [impl_firingsWith_L4] at hm299
      refine wpL_seq ?_
      refine wpL_region ?_
      refine sY hf hs rfl rfl rfl (Y_lss rfl rfl rfl) ?_; clear hf; intro a hf
      refine wpO_nil ?_
      refine wpL_seq ?_
      refine wpL_cond hf rfl (fun hb301 => ?_) (fun hb301 => ?_)
      · have hm299 := bif_t hm299 hb301
        refine wpL_skip ?_
        refine wpL_seq ?_
        refine wpL_block0 ?_
        refine wpL_seq ?_
        refine wpL_region ?_
        refine sY hf hs rfl rfl rfl (Y_move rfl rfl) ?_; clear hf; intro a hf
        obtain ⟨q302, hi303, hm299⟩ := bind_some hm299
        obtain ⟨hi303a, hi303b, hi303q⟩ := idx_some hi303
        obtain ⟨vs304, hv305, hr306⟩ := id h_p0_table_1
        obtain ⟨A307, c308, hv309, hR310⟩ := hr306 _ _ hi303q
        refine sY hf hs rfl rfl rfl (Y_index rfl rfl rfl el46 ti23 (Rd.isAt hv305 hv309) hi303a hi303b) ?_; clear hf; intro a hf
        refine sY hf hs rfl rfl rfl (Y_load_rd rfl rfl (fun w hs => hv305.at hs) (at1 hv309) ag23) ?_; clear hf; intro a hf
        refine sY hf hs rfl rfl rfl (Y_assign rfl rfl) ?_; clear hf; intro a hf
        refine sY hf hs rfl rfl rfl (Y_assign rfl rfl) ?_; clear hf; intro a hf
        refine wpO_nil ?_
        refine wpL_seq ?_
        refine wpL_region ?_
        refine sY hf hs rfl rfl rfl (Y_move rfl rfl) ?_; clear hf; intro a hf
        refine sY hf hs rfl rfl rfl (Y_lenH rfl rfl el23 rfl) ?_; clear hf; intro a hf
        refine sY hf hs rfl rfl rfl (Y_move rfl rfl) ?_; clear hf; intro a hf
        refine wpO_nil ?_
        obtain ⟨r373, hl374, hm299⟩ := bind_some hm299
        refine wpL_block (fun a w => ∃ ms367 : List (List Int), ∃ A368, ∃ n369, ∃ c370, ∃ vs372, ms367 = r373 ∧ n369 = ms367.length ∧ Fr a 35 [(1, .func (.func f_p1_has) #[] k_p1_has.toArray), (5, .slice A368 n369 c370), (9, .slice A_p0_table_1 p0_table.length c_p0_table_1), (10, .int .i64 (p0_table.length : Int)), (11, .int .i64 x200)] ∧ St [] W w [.mat A368 n369 c370 23 2 vs372 ms367]) ?_ ?_
        · refine wpL_loop (fun n a w => ∃ ms346 : List (List Int), ∃ x352 : Int, ∃ A347, ∃ n348, ∃ c349, ∃ vs351, impl_firingsWith_L5 F m_p1_has x200 q302 n ms346 x352 = some r373 ∧ n348 = ms346.length ∧ Fr a 35 [(1, .func (.func f_p1_has) #[] k_p1_has.toArray), (5, .slice A347 n348 c349), (6, .int .i64 x200), (9, .slice A_p0_table_1 p0_table.length c_p0_table_1), (10, .int .i64 (p0_table.length : Int)), (11, .int .i64 x200), (17, .int .i64 (q302.length : Int)), (18, .int .i64 x352)] ∧ St [] W w [.mat A347 n348 c349 23 2 vs351 ms346]) F ?_ ?_ ?_
          · exact ⟨ms194, 0, A195, n196, c197, vs199, hl374, hn198, (FrD.pick (FrD.pick (FrD.pick (FrD.pick (FrD.pick (FrD.pick (FrD.pick (FrD.pick hf.none hf rfl) hf rfl) hf rfl) hf rfl) hf rfl) hf rfl) hf rfl) hf rfl), hs⟩
          · rintro a w ⟨ms346, x352, A347, n348, c349, vs351, h0_, -, -, -⟩; simp [impl_firingsWith_L5] at h0_
          · rintro n376 a w ⟨ms346, x352, A347, n348, c349, vs351, hm375, hn350, hf, hs⟩
            rw [impl_firingsWith_L5] at hm375
            refine wpL_seq ?_
            refine wpL_region ?_
            refine sY hf hs rfl rfl rfl (Y_lss rfl rfl rfl) ?_; clear hf; intro a hf
            refine wpO_nil ?_
            refine wpL_seq ?_
            refine wpL_cond hf rfl (fun hb377 => ?_) (fun hb377 => ?_)
            · have hm375 := bif_t hm375 hb377
              refine wpL_skip ?_
              refine wpL_seq ?_
              refine wpL_block0 ?_
              refine wpL_seq ?_
              refine wpL_region ?_
              refine sY hf hs rfl rfl rfl (Y_move rfl rfl) ?_; clear hf; intro a hf
              refine sY hf hs rfl rfl rfl (Y_assign rfl rfl) ?_; clear hf; intro a hf
              refine wpO_nil ?_
              refine wpL_seq ?_
              refine wpL_region ?_
              refine sY hf hs rfl rfl rfl (Y_move rfl rfl) ?_; clear hf; intro a hf
              refine sY hf hs rfl rfl rfl (Y_move rfl rfl) ?_; clear hf; intro a hf
              refine sY hf hs rfl rfl rfl (Y_move rfl rfl) ?_; clear hf; intro a hf
              obtain ⟨r378, hc379, hm375⟩ := bind_some hm375
              refine sCall hf rfl rfl rfl rfl (cap := k_p1_has) rfl rfl e_p1_has (h_p1_has x200 x352 _ _ hc379 hs.below) ?_; clear hf; rintro _ w ⟨rfl, hs1⟩ a hf; have hs := hs.ext hs1.below; clear hs1
              refine wpO_nil ?_
              refine wpL_cond hf rfl (fun hb380 => ?_) (fun hb380 => ?_)
              · have hm375 := bif_t hm375 hb380
                refine wpL_region ?_
                refine sY hf hs rfl rfl rfl (Y_move rfl rfl) ?_; clear hf; intro a hf
                refine sY hf hs rfl rfl rfl (Y_move rfl rfl) ?_; clear hf; intro a hf
                refine sY hf hs rfl rfl rfl (Y_add rfl rfl rfl) ?_; clear hf; intro a hf
                refine sY hf hs rfl rfl rfl (Y_move rfl rfl) ?_; clear hf; intro a hf
                refine sBuildSlice (parts := [(0, .tmp 27), (1, .tmp 28)]) (vs := [.int .i64 (IntKind.i64.wrap (x200 + 1)), .int .i64 x352]) (cells := [.int .i64 (IntKind.i64.wrap (x200 + 1)), .int .i64 x352]) hf hs rfl rfl rfl rfl rfl el23 ti2 rfl rfl rfl rfl ?_; clear hf hs; intro a w A381 hs hA382 hf
                have hs : St [] W w [.mat A347 n348 c349 23 2 vs351 ms346, .row A381 2 2 2 1 (ints ([(IntKind.i64.wrap (x200 + 1)), x352]))] := hs
                refine sOneM (j := 1) hf hs rfl rfl rfl rfl rfl rfl rfl el46 ti23 ?_; clear hf hs; intro a w A383 hs hf
                have hs : St [] W w [.mat A347 n348 c349 23 2 vs351 ms346, .mat A383 1 1 23 2 ([.slice A381 ([(IntKind.i64.wrap (x200 + 1)), x352]).length 2]) ([[(IntKind.i64.wrap (x200 + 1)), x352]])] := hs
                obtain ⟨ms387, ha388, hm375⟩ := bind_some hm375
                refine sAppendM (i := 0) (j := 1) hf hs rfl rfl rfl rfl rfl rfl hn350 rfl (by decide) rfl rfl (by decide) ha388 el46 ti23 rfl ?_; clear hf hs; intro a w A385 c386 hs hf
                have hs : St [] W w [.mat A385 ms387.length c386 23 2 (vs351 ++ ([.slice A381 ([(IntKind.i64.wrap (x200 + 1)), x352]).length 2])) ms387] := hs
                obtain ⟨hq389, hv390⟩ := hs.appended (i := 0) rfl ha388
                refine sY hf hs rfl rfl rfl (Y_assign rfl rfl) ?_; clear hf; intro a hf
                refine wpO_nil ?_
                refine wpL_nil (Qb_normal ?_)
                refine wpL_region ?_
                refine sY hf hs rfl rfl rfl (Y_add rfl rfl rfl) ?_; clear hf; intro a hf
                refine sY hf hs rfl rfl rfl (Y_move rfl rfl) ?_; clear hf; intro a hf
                refine wpO_nil ?_
                refine wpL_nil (Ql_normal ?_)
                exact ⟨ms387, (IntKind.i64.wrap (x352 + 1)), A385, ms387.length, c386, (vs351 ++ ([.slice A381 ([(IntKind.i64.wrap (x200 + 1)), x352]).length 2])), hm375, rfl, (FrD.pick (FrD.pick (FrD.pick (FrD.pick (FrD.pick (FrD.pick (FrD.pick (FrD.pick hf.none hf rfl) hf rfl) hf rfl) hf rfl) hf rfl) hf rfl) hf rfl) hf rfl), hs⟩
              · have hm375 := bif_f hm375 hb380
                refine wpL_skip ?_
                refine wpL_nil (Qb_normal ?_)
                refine wpL_region ?_
                refine sY hf hs rfl rfl rfl (Y_add rfl rfl rfl) ?_; clear hf; intro a hf
                refine sY hf hs rfl rfl rfl (Y_move rfl rfl) ?_; clear hf; intro a hf
                refine wpO_nil ?_
                refine wpL_nil (Ql_normal ?_)
                exact ⟨ms346, (IntKind.i64.wrap (x352 + 1)), A347, n348, c349, vs351, hm375, hn350, (FrD.pick (FrD.pick (FrD.pick (FrD.pick (FrD.pick (FrD.pick (FrD.pick (FrD.pick hf.none hf rfl) hf rfl) hf rfl) hf rfl) hf rfl) hf rfl) hf rfl) hf rfl), hs⟩
            · have hm375 := bif_f hm375 hb377
              refine wpL_exit (Ql_exit (Qb_exit ?_))
              exact ⟨ms346, A347, n348, c349, vs351, Option.some.inj hm375, hn350, (FrD.pick (FrD.pick (FrD.pick (FrD.pick (FrD.pick hf.none hf rfl) hf rfl) hf rfl) hf rfl) hf rfl), hs⟩
        · rintro a w ⟨ms367, A368, n369, c370, vs372, hr_, hn371, hf, hs⟩
          subst hr_
          try dsimp only at hm299
          refine wpL_nil (Qb_normal ?_)
          refine wpL_region ?_
          refine sY hf hs rfl rfl rfl (Y_add rfl rfl rfl) ?_; clear hf; intro a hf
          refine sY hf hs rfl rfl rfl (Y_move rfl rfl) ?_; clear hf; intro a hf
          refine wpO_nil ?_
          refine wpL_nil (Ql_normal ?_)
          exact ⟨ms367, (IntKind.i64.wrap (x200 + 1)), A368, n369, c370, vs372, hm299, hn371, (FrD.pick (FrD.pick (FrD.pick (FrD.pick (FrD.pick hf.none hf rfl) hf rfl) hf rfl) hf rfl) hf rfl), hs⟩
      · have hm299 := bif_f hm299 hb301
        refine wpL_exit (Ql_exit (Qb_exit ?_))
        exact ⟨ms194, A195, n196, c197, vs199, Option.some.inj hm299, hn198, (FrD.pick hf.none hf rfl), hs⟩
  · rintro a w ⟨ms291, A292, n293, c294, vs296, hr_, hn295, hf, hs⟩
    subst hr_
    try dsimp only at hm
    refine wpL_seq ?_
    refine wpL_region ?_
    refine sY hf hs rfl rfl rfl (Y_move rfl rfl) ?_; clear hf; intro a hf
    refine sY hf hs rfl rfl rfl (Y_assign rfl rfl) ?_; clear hf; intro a hf
    refine wpO_nil ?_
    obtain rfl := Option.some.inj hm
    refine wpL_ret (ret_tmp rfl hf rfl ?_)
    exact ⟨_, rfl, A292, n293, c294, vs296, rfl, hn295, hs⟩

set_option maxRecDepth 100000 in
theorem impl_CriticalFirings_ok (F : Nat) (p0_g : GEventGraph) (A_p0_g_1 : Option Addr) (n_p0_g_1 c_p0_g_1 : Nat) (hn_p0_g_1 : n_p0_g_1 = p0_g.Places.length) (p1_due : List (List Int)) (A_p1_due_1 : Option Addr) (n_p1_due_1 c_p1_due_1 : Nat) (hn_p1_due_1 : n_p1_due_1 = p1_due.length) (r : List (List Int) × Int) (W : World) (hm : impl_CriticalFirings F p0_g p1_due = some r) (h_p0_g_1 : Rd W A_p0_g_1 ((recs GPlace.cells) p0_g.Places)) (h_p1_due_1 : RdM W A_p1_due_1 p1_due) :
    Calls Try.prog 61 [.agg #[.int .i64 p0_g.Events, .slice A_p0_g_1 n_p0_g_1 c_p0_g_1], .slice A_p1_due_1 n_p1_due_1 c_p1_due_1].toArray W fun e w' => ∃ v, e = .returned v ∧ ∃ A21, ∃ n22, ∃ c23, ∃ vs25, v = .tuple #[.slice A21 n22 c23, .int .i64 r.2] ∧ n22 = r.1.length ∧ St [] W w' [.mat A21 n22 c23 23 2 vs25 r.1] := by
  subst hn_p0_g_1
  subst hn_p1_due_1
  unfold impl_CriticalFirings at hm
  refine Calls.enter (N := 20) Try.func61 rfl rfl rfl (fun a hf => ?_)
  have hs := St.start W
  obtain ⟨w, hw_⟩ : ∃ w, w = W := ⟨W, rfl⟩
  clear hw_ w
  refine wpL_seq ?_
  refine wpL_region ?_
  refine sBox hf hs rfl rfl rfl rfl rfl (cs := [.int .i64 p0_g.Events, .slice A_p0_g_1 p0_g.Places.length c_p0_g_1]) rfl ?_; clear hf hs; intro a w b1 hs hf
  have hs : St [] W w [.blk b1 39 [.int .i64 p0_g.Events, .slice A_p0_g_1 p0_g.Places.length c_p0_g_1]] := hs
  refine sY hf hs rfl rfl rfl (Y_assign rfl rfl) ?_; clear hf; intro a hf
  refine sY hf hs rfl rfl rfl (Y_assign rfl rfl) ?_; clear hf; intro a hf
  refine wpO_nil ?_
  refine wpL_seq ?_
  refine wpL_seq ?_
  refine wpL_region ?_
  refine sY hf hs rfl rfl rfl (Y_load_blkS rfl rfl (i := 0) rfl ag39 ti39 rfl) ?_; clear hf; intro a hf
  refine sY hf hs rfl rfl rfl (Y_move rfl rfl) ?_; clear hf; intro a hf
  obtain ⟨r2, hc3, hm⟩ := bind_some hm
  refine sCall hf rfl rfl rfl rfl (cap := []) rfl rfl en126 (impl_checkDue_ok F p0_g A_p0_g_1 p0_g.Places.length c_p0_g_1 rfl p1_due A_p1_due_1 p1_due.length c_p1_due_1 rfl _ _ hc3 (h_p0_g_1.at hs) (h_p1_due_1.at hs)) ?_; clear hf
  rintro _ w ⟨rfl, hs1⟩ a hf
  have hs : St [] W w [.blk b1 39 [.int .i64 p0_g.Events, .slice A_p0_g_1 p0_g.Places.length c_p0_g_1]] := hs.ext hs1.below
  clear hs1
  refine sY hf hs rfl rfl rfl (Y_assign rfl rfl) ?_; clear hf; intro a hf
  refine wpO_nil ?_
  refine wpL_seq ?_
  refine wpL_region ?_
  refine sY hf hs rfl rfl rfl (Y_move rfl rfl) ?_; clear hf; intro a hf
  refine sY hf hs rfl rfl rfl (Y_neq rfl rfl rfl) ?_; clear hf; intro a hf
  refine wpO_nil ?_
  refine wpL_cond hf rfl (fun hb4 => ?_) (fun hb4 => ?_)
  · have hm := bif_t hm hb4
    refine wpL_seq ?_
    refine wpL_region ?_
    refine sY hf hs rfl rfl rfl (Y_move rfl rfl) ?_; clear hf; intro a hf
    refine sY hf hs rfl rfl rfl (Y_assign rfl rfl) ?_; clear hf; intro a hf
    refine sY hf hs rfl rfl rfl (Y_assign rfl rfl) ?_; clear hf; intro a hf
    refine wpO_nil ?_
    have hs : St [] W _ [.blk b1 39 [.int .i64 p0_g.Events, .slice A_p0_g_1 p0_g.Places.length c_p0_g_1], .mat none 0 0 23 2 [] ([] : List (List Int))] := hs.addNilM 23 2
    obtain rfl := Option.some.inj hm
    refine wpL_ret (ret_tmp2 rfl hf rfl rfl ?_)
    exact ⟨_, rfl, none, 0, 0, [], rfl, rfl, hs.sel [1] (by decide)⟩
  · have hm := bif_f hm hb4
    refine wpL_skip ?_
    refine wpL_seq ?_
    refine wpL_region ?_
    refine sY hf hs rfl rfl rfl (Y_load_blkS rfl rfl (i := 0) rfl ag39 ti39 rfl) ?_; clear hf; intro a hf
    refine sY hf hs rfl rfl rfl (Y_move rfl rfl) ?_; clear hf; intro a hf
    obtain ⟨r6, hc7, hm⟩ := bind_some hm
    refine sCall hf rfl rfl rfl rfl (cap := []) rfl rfl en129 (impl_floatsOf_ok F p0_g A_p0_g_1 p0_g.Places.length c_p0_g_1 rfl p1_due A_p1_due_1 p1_due.length c_p1_due_1 rfl _ _ hc7 (h_p0_g_1.at hs) (h_p1_due_1.at hs)) ?_; clear hf
    rintro _ w ⟨A8, n9, c10, vs12, rfl, hn11, hs1⟩ a hf
    have hs : St [] W w [.blk b1 39 [.int .i64 p0_g.Events, .slice A_p0_g_1 p0_g.Places.length c_p0_g_1], .mat A8 n9 c10 23 2 vs12 r6] := hs.join hs1
    clear hs1
    refine sAlloc hf hs rfl rfl rfl rfl ti46 ?_; clear hf hs; intro a w b13 hs hf
    have hs : St [] W w [.blk b1 39 [.int .i64 p0_g.Events, .slice A_p0_g_1 p0_g.Places.length c_p0_g_1], .mat A8 n9 c10 23 2 vs12 r6, .blk b13 46 [.slice none 0 0]] := hs
    refine sStore (i := 2) (us := [.slice A8 n9 c10]) hf hs rfl rfl rfl rfl rfl rfl ti46 rfl rfl rfl (Nat.le_of_ble_eq_true rfl) rfl ?_; clear hs; intro w hs
    have hs : St [] W w [.blk b1 39 [.int .i64 p0_g.Events, .slice A_p0_g_1 p0_g.Places.length c_p0_g_1], .mat A8 n9 c10 23 2 vs12 r6, .blk b13 46 [.slice A8 n9 c10]] := hs
    refine wpO_nil ?_
    refine wpL_seq ?_
    refine wpL_region ?_
    refine sY hf hs rfl rfl rfl (Y_load_blk rfl rfl (i := 2) rfl rfl ag46) ?_; clear hf; intro a hf
    refine sY hf hs rfl rfl rfl (Y_makeFunc (us := []) (vs := [.pointer (some ⟨b13, 0, none⟩)]) rfl rfl rfl) ?_; clear hf; intro a hf
    obtain ⟨r14, hc15, hm⟩ := bind_some hm
    refine sCall hf rfl rfl rfl rfl (cap := []) rfl rfl en131 (impl_firingsWith_ok F r6 A8 n9 c10 hn11 (fun x0 x1 => impl_CriticalFirings_c1 F x0 x1 r6) 132 ([.pointer (some ⟨b13, 0, none⟩)]) _ _ hc15 (hs.rdM (i := 1) rfl) (fun x0 x1 r w' hm_ hb => impl_CriticalFirings_c1_ok F x0 x1 b13 r6 A8 n9 c10 hn11 r w' hm_ ((hs.rdM (i := 1) rfl).below hb (Nat.le_refl _)) ((hs.pb (i := 2) rfl).below hb (Nat.le_refl _))) en132) ?_; clear hf
    rintro _ w ⟨A16, n17, c18, vs20, rfl, hn19, hs1⟩ a hf
    have hs : St [] W w [.blk b1 39 [.int .i64 p0_g.Events, .slice A_p0_g_1 p0_g.Places.length c_p0_g_1], .mat A8 n9 c10 23 2 vs12 r6, .blk b13 46 [.slice A8 n9 c10], .mat A16 n17 c18 23 2 vs20 r14] := hs.join hs1
    clear hs1
    refine sY hf hs rfl rfl rfl (Y_assign rfl rfl) ?_; clear hf; intro a hf
    refine sY hf hs rfl rfl rfl (Y_assign rfl rfl) ?_; clear hf; intro a hf
    refine wpO_nil ?_
    obtain rfl := Option.some.inj hm
    refine wpL_ret (ret_tmp2 rfl hf rfl rfl ?_)
    exact ⟨_, rfl, A16, n17, c18, vs20, rfl, hn19, hs.sel [3] (by decide)⟩

set_option maxRecDepth 100000 in
theorem laws_eqInt64S_ok (F : Nat) (p0_a : List Int) (A_p0_a_1 : Option Addr) (n_p0_a_1 c_p0_a_1 : Nat) (hn_p0_a_1 : n_p0_a_1 = p0_a.length) (p1_b : List Int) (A_p1_b_1 : Option Addr) (n_p1_b_1 c_p1_b_1 : Nat) (hn_p1_b_1 : n_p1_b_1 = p1_b.length) (r : Bool) (W : World) (hm : laws_eqInt64S F p0_a p1_b = some r) (h_p0_a_1 : Rd W A_p0_a_1 (ints p0_a)) (h_p1_b_1 : Rd W A_p1_b_1 (ints p1_b)) :
    Calls Try.prog 19 [.slice A_p0_a_1 n_p0_a_1 c_p0_a_1, .slice A_p1_b_1 n_p1_b_1 c_p1_b_1].toArray W fun e w' => ∃ v, e = .returned v ∧ v = .bool r ∧ St [] W w' [] := by
  subst hn_p0_a_1
  subst hn_p1_b_1
  unfold laws_eqInt64S at hm
  refine Calls.enter (N := 26) Try.func19 rfl rfl rfl (fun a hf => ?_)
  have hs := St.start W
  obtain ⟨w, hw_⟩ : ∃ w, w = W := ⟨W, rfl⟩
  clear hw_ w
  refine wpL_seq ?_
  refine wpL_region ?_
  refine sY hf hs rfl rfl rfl (Y_assign rfl rfl) ?_; clear hf; intro a hf
  refine wpO_nil ?_
  refine wpL_seq ?_
  refine wpL_seq ?_
  refine wpL_region ?_
  refine sY hf hs rfl rfl rfl (Y_move rfl rfl) ?_; clear hf; intro a hf
  refine sY hf hs rfl rfl rfl (Y_lenH rfl rfl el23 rfl) ?_; clear hf; intro a hf
  refine sY hf hs rfl rfl rfl (Y_move rfl rfl) ?_; clear hf; intro a hf
  refine sY hf hs rfl rfl rfl (Y_lenH rfl rfl el23 rfl) ?_; clear hf; intro a hf
  refine sY hf hs rfl rfl rfl (Y_neq rfl rfl rfl) ?_; clear hf; intro a hf
  refine wpO_nil ?_
  refine wpL_cond hf rfl (fun hb1 => ?_) (fun hb1 => ?_)
  · have hm := bif_t hm hb1
    refine wpL_seq ?_
    refine wpL_region ?_
    refine sY hf hs rfl rfl rfl (Y_assign rfl rfl) ?_; clear hf; intro a hf
    refine wpO_nil ?_
    obtain rfl := Option.some.inj hm
    refine wpL_ret (ret_tmp rfl hf rfl ?_)
    exact ⟨_, rfl, rfl, hs⟩
  · have hm := bif_f hm hb1
    refine wpL_skip ?_
    refine wpL_seq ?_
    refine wpL_seq ?_
    refine wpL_region ?_
    refine sY hf hs rfl rfl rfl (Y_assign rfl rfl) ?_; clear hf; intro a hf
    refine wpO_nil ?_
    obtain ⟨r22, hl23, hm⟩ := bind_some hm
    refine wpL_block (fun a w => Sum.inr () = r22 ∧ Fr a 26 [] ∧ St [] W w []) ?_ ?_
    · refine wpL_loop (fun n a w => ∃ x15 : Int, laws_eqInt64S_L1 F p0_a p1_b n x15 = some r22 ∧ Fr a 26 [(0, .slice A_p0_a_1 p0_a.length c_p0_a_1), (1, .slice A_p1_b_1 p1_b.length c_p1_b_1), (5, .int .i64 x15)] ∧ St [] W w []) F ?_ ?_ ?_
      · exact ⟨0, hl23, (FrD.pick (FrD.pick (FrD.pick hf.none hf rfl) hf rfl) hf rfl), hs⟩
      · rintro a w ⟨x15, h0_, -, -⟩; simp [laws_eqInt64S_L1] at h0_
      · rintro n25 a w ⟨x15, hm24, hf, hs⟩
        rw [laws_eqInt64S_L1] at hm24
        refine wpL_seq ?_
        refine wpL_seq ?_
        refine wpL_region ?_
        refine sY hf hs rfl rfl rfl (Y_move rfl rfl) ?_; clear hf; intro a hf
        refine sY hf hs rfl rfl rfl (Y_move rfl rfl) ?_; clear hf; intro a hf
        refine sY hf hs rfl rfl rfl (Y_lenH rfl rfl el23 rfl) ?_; clear hf; intro a hf
        refine sY hf hs rfl rfl rfl (Y_lss rfl rfl rfl) ?_; clear hf; intro a hf
        refine wpO_nil ?_
        refine wpL_cond hf rfl (fun hb26 => ?_) (fun hb26 => ?_)
        · have hm24 := bif_t hm24 hb26
          refine wpL_skip ?_
          refine wpL_seq ?_
          refine wpL_block0 ?_
          refine wpL_seq ?_
          refine wpL_draw (by kernel_rfl) (by kernel_rfl) hs ?_
          refine qY hf rfl rfl rfl (Y_move rfl rfl) ?_; clear hf; intro a hf
          refine qY hf rfl rfl rfl (Y_move rfl rfl) ?_; clear hf; intro a hf
          obtain ⟨q27, hi28, hm24⟩ := bind_some hm24
          obtain ⟨hi28a, hi28b, hi28q⟩ := idx_some hi28
          refine qY hf rfl rfl rfl (Y_index rfl rfl rfl el23 ti2 (Rd.isAt (h_p0_a_1.at hs) (at1 (ints_at hi28q))) hi28a hi28b) ?_; clear hf; intro a hf
          refine qY hf rfl rfl rfl (Y_load_rd rfl rfl (fun w hs => h_p0_a_1.at hs) (at1 (ints_at hi28q)) ag2) ?_; clear hf; intro a hf
          refine qY hf rfl rfl rfl (Y_move rfl rfl) ?_; clear hf; intro a hf
          refine qY hf rfl rfl rfl (Y_move rfl rfl) ?_; clear hf; intro a hf
          obtain ⟨q29, hi30, hm24⟩ := bind_some hm24
          obtain ⟨hi30a, hi30b, hi30q⟩ := idx_some hi30
          refine qY hf rfl rfl rfl (Y_index rfl rfl rfl el23 ti2 (Rd.isAt (h_p1_b_1.at hs) (at1 (ints_at hi30q))) hi30a hi30b) ?_; clear hf; intro a hf
          refine qY hf rfl rfl rfl (Y_load_rd rfl rfl (fun w hs => h_p1_b_1.at hs) (at1 (ints_at hi30q)) ag2) ?_; clear hf; intro a hf
          refine qY hf rfl rfl rfl (Y_neq rfl rfl rfl) ?_; clear hf; intro a hf
          refine qNil ?_; clear hs; intro w hs
          refine wpL_cond hf rfl (fun hb31 => ?_) (fun hb31 => ?_)
          · have hm24 := bif_t hm24 hb31
            refine wpL_seq ?_
            refine wpL_region ?_
            refine sY hf hs rfl rfl rfl (Y_assign rfl rfl) ?_; clear hf; intro a hf
            refine wpO_nil ?_
            obtain rfl := Option.some.inj hm24
            try dsimp only at hm
            obtain rfl := Option.some.inj hm
            refine wpL_ret (Qb_ret (Ql_ret (Qb_ret (ret_tmp rfl hf rfl ?_))))
            exact ⟨_, rfl, rfl, hs⟩
          · have hm24 := bif_f hm24 hb31
            refine wpL_skip ?_
            refine wpL_nil (Qb_normal ?_)
            refine wpL_region ?_
            refine sY hf hs rfl rfl rfl (Y_move rfl rfl) ?_; clear hf; intro a hf
            refine sY hf hs rfl rfl rfl (Y_add rfl rfl rfl) ?_; clear hf; intro a hf
            refine sY hf hs rfl rfl rfl (Y_assign rfl rfl) ?_; clear hf; intro a hf
            refine wpO_nil ?_
            refine wpL_nil (Ql_normal ?_)
            exact ⟨(IntKind.i64.wrap (x15 + 1)), hm24, (FrD.pick (FrD.pick (FrD.pick hf.none hf rfl) hf rfl) hf rfl), hs⟩
        · have hm24 := bif_f hm24 hb26
          refine wpL_exit (Ql_exit (Qb_exit ?_))
          exact ⟨Option.some.inj hm24, hf.none, hs⟩
    · rintro a w ⟨hr_, hf, hs⟩
      subst hr_
      try dsimp only at hm
      refine wpL_seq ?_
      refine wpL_region ?_
      refine sY hf hs rfl rfl rfl (Y_assign rfl rfl) ?_; clear hf; intro a hf
      refine wpO_nil ?_
      obtain rfl := Option.some.inj hm
      refine wpL_ret (ret_tmp rfl hf rfl ?_)
      exact ⟨_, rfl, rfl, hs⟩

set_option maxRecDepth 100000 in
theorem laws_eqInt64SS_ok (F : Nat) (p0_a : List (List Int)) (A_p0_a_1 : Option Addr) (n_p0_a_1 c_p0_a_1 : Nat) (hn_p0_a_1 : n_p0_a_1 = p0_a.length) (p1_b : List (List Int)) (A_p1_b_1 : Option Addr) (n_p1_b_1 c_p1_b_1 : Nat) (hn_p1_b_1 : n_p1_b_1 = p1_b.length) (r : Bool) (W : World) (hm : laws_eqInt64SS F p0_a p1_b = some r) (h_p0_a_1 : RdM W A_p0_a_1 p0_a) (h_p1_b_1 : RdM W A_p1_b_1 p1_b) :
    Calls Try.prog 35 [.slice A_p0_a_1 n_p0_a_1 c_p0_a_1, .slice A_p1_b_1 n_p1_b_1 c_p1_b_1].toArray W fun e w' => ∃ v, e = .returned v ∧ v = .bool r ∧ St [] W w' [] := by
  subst hn_p0_a_1
  subst hn_p1_b_1
  unfold laws_eqInt64SS at hm
  refine Calls.enter (N := 27) Try.func35 rfl rfl rfl (fun a hf => ?_)
  have hs := St.start W
  obtain ⟨w, hw_⟩ : ∃ w, w = W := ⟨W, rfl⟩
  clear hw_ w
  refine wpL_seq ?_
  refine wpL_region ?_
  refine sY hf hs rfl rfl rfl (Y_assign rfl rfl) ?_; clear hf; intro a hf
  refine wpO_nil ?_
  refine wpL_seq ?_
  refine wpL_seq ?_
  refine wpL_region ?_
  refine sY hf hs rfl rfl rfl (Y_move rfl rfl) ?_; clear hf; intro a hf
  refine sY hf hs rfl rfl rfl (Y_lenH rfl rfl el46 rfl) ?_; clear hf; intro a hf
  refine sY hf hs rfl rfl rfl (Y_move rfl rfl) ?_; clear hf; intro a hf
  refine sY hf hs rfl rfl rfl (Y_lenH rfl rfl el46 rfl) ?_; clear hf; intro a hf
  refine sY hf hs rfl rfl rfl (Y_neq rfl rfl rfl) ?_; clear hf; intro a hf
  refine wpO_nil ?_
  refine wpL_cond hf rfl (fun hb1 => ?_) (fun hb1 => ?_)
  · have hm := bif_t hm hb1
    refine wpL_seq ?_
    refine wpL_region ?_
    refine sY hf hs rfl rfl rfl (Y_assign rfl rfl) ?_; clear hf; intro a hf
    refine wpO_nil ?_
    obtain rfl := Option.some.inj hm
    refine wpL_ret (ret_tmp rfl hf rfl ?_)
    exact ⟨_, rfl, rfl, hs⟩
  · have hm := bif_f hm hb1
    refine wpL_skip ?_
    refine wpL_seq ?_
    refine wpL_seq ?_
    refine wpL_region ?_
    refine sY hf hs rfl rfl rfl (Y_assign rfl rfl) ?_; clear hf; intro a hf
    refine wpO_nil ?_
    obtain ⟨r70, hl71, hm⟩ := bind_some hm
    refine wpL_block (fun a w => Sum.inr () = r70 ∧ Fr a 27 [] ∧ St [] W w []) ?_ ?_
    · refine wpL_loop (fun n a w => ∃ x47 : Int, laws_eqInt64SS_L1 F p0_a p1_b n x47 = some r70 ∧ Fr a 27 [(0, .slice A_p0_a_1 p0_a.length c_p0_a_1), (1, .slice A_p1_b_1 p1_b.length c_p1_b_1), (5, .int .i64 x47)] ∧ St [] W w []) F ?_ ?_ ?_
      · exact ⟨0, hl71, (FrD.pick (FrD.pick (FrD.pick hf.none hf rfl) hf rfl) hf rfl), hs⟩
      · rintro a w ⟨x47, h0_, -, -⟩; simp [laws_eqInt64SS_L1] at h0_
      · rintro n73 a w ⟨x47, hm72, hf, hs⟩
        rw [laws_eqInt64SS_L1] at hm72
        refine wpL_seq ?_
        refine wpL_seq ?_
        refine wpL_region ?_
        refine sY hf hs rfl rfl rfl (Y_move rfl rfl) ?_; clear hf; intro a hf
        refine sY hf hs rfl rfl rfl (Y_move rfl rfl) ?_; clear hf; intro a hf
        refine sY hf hs rfl rfl rfl (Y_lenH rfl rfl el46 rfl) ?_; clear hf; intro a hf
        refine sY hf hs rfl rfl rfl (Y_lss rfl rfl rfl) ?_; clear hf; intro a hf
        refine wpO_nil ?_
        refine wpL_cond hf rfl (fun hb74 => ?_) (fun hb74 => ?_)
        · have hm72 := bif_t hm72 hb74
          refine wpL_skip ?_
          refine wpL_seq ?_
          refine wpL_block0 ?_
          refine wpL_seq ?_
          refine wpL_draw (by kernel_rfl) (by kernel_rfl) hs ?_
          refine qY hf rfl rfl rfl (Y_move rfl rfl) ?_; clear hf; intro a hf
          refine qY hf rfl rfl rfl (Y_move rfl rfl) ?_; clear hf; intro a hf
          obtain ⟨q75, hi76, hm72⟩ := bind_some hm72
          obtain ⟨hi76a, hi76b, hi76q⟩ := idx_some hi76
          obtain ⟨vs77, hv78, hr79⟩ := id h_p0_a_1
          obtain ⟨A80, c81, hv82, hR83⟩ := hr79 _ _ hi76q
          refine qY hf rfl rfl rfl (Y_index rfl rfl rfl el46 ti23 (Rd.isAt hv78 hv82) hi76a hi76b) ?_; clear hf; intro a hf
          refine qY hf rfl rfl rfl (Y_load_rd rfl rfl (fun w hs => hv78.at hs) (at1 hv82) ag23) ?_; clear hf; intro a hf
          refine qY hf rfl rfl rfl (Y_move rfl rfl) ?_; clear hf; intro a hf
          refine qY hf rfl rfl rfl (Y_move rfl rfl) ?_; clear hf; intro a hf
          obtain ⟨q84, hi85, hm72⟩ := bind_some hm72
          obtain ⟨hi85a, hi85b, hi85q⟩ := idx_some hi85
          obtain ⟨vs86, hv87, hr88⟩ := id h_p1_b_1
          obtain ⟨A89, c90, hv91, hR92⟩ := hr88 _ _ hi85q
          refine qY hf rfl rfl rfl (Y_index rfl rfl rfl el46 ti23 (Rd.isAt hv87 hv91) hi85a hi85b) ?_; clear hf; intro a hf
          refine qY hf rfl rfl rfl (Y_load_rd rfl rfl (fun w hs => hv87.at hs) (at1 hv91) ag23) ?_; clear hf; intro a hf
          obtain ⟨r93, hc94, hm72⟩ := bind_some hm72
          refine qCall hf rfl rfl rfl rfl (cap := []) rfl rfl en19 (v := .bool r93) (fun w hs => Calls.scal (laws_eqInt64S_ok F q75 A80 q75.length c81 rfl q84 A89 q84.length c90 rfl _ _ hc94 (hR83.at hs) (hR92.at hs))) ?_; clear hf; intro a hf
          refine qY hf rfl rfl rfl (Y_not rfl rfl) ?_; clear hf; intro a hf
          refine qNil ?_; clear hs; intro w hs
          refine wpL_cond hf rfl (fun hb95 => ?_) (fun hb95 => ?_)
          · have hm72 := bif_t hm72 hb95
            refine wpL_seq ?_
            refine wpL_region ?_
            refine sY hf hs rfl rfl rfl (Y_assign rfl rfl) ?_; clear hf; intro a hf
            refine wpO_nil ?_
            obtain rfl := Option.some.inj hm72
            try dsimp only at hm
            obtain rfl := Option.some.inj hm
            refine wpL_ret (Qb_ret (Ql_ret (Qb_ret (ret_tmp rfl hf rfl ?_))))
            exact ⟨_, rfl, rfl, hs⟩
          · have hm72 := bif_f hm72 hb95
            refine wpL_skip ?_
            refine wpL_nil (Qb_normal ?_)
            refine wpL_region ?_
            refine sY hf hs rfl rfl rfl (Y_move rfl rfl) ?_; clear hf; intro a hf
            refine sY hf hs rfl rfl rfl (Y_add rfl rfl rfl) ?_; clear hf; intro a hf
            refine sY hf hs rfl rfl rfl (Y_assign rfl rfl) ?_; clear hf; intro a hf
            refine wpO_nil ?_
            refine wpL_nil (Ql_normal ?_)
            exact ⟨(IntKind.i64.wrap (x47 + 1)), hm72, (FrD.pick (FrD.pick (FrD.pick hf.none hf rfl) hf rfl) hf rfl), hs⟩
        · have hm72 := bif_f hm72 hb74
          refine wpL_exit (Ql_exit (Qb_exit ?_))
          exact ⟨Option.some.inj hm72, hf.none, hs⟩
    · rintro a w ⟨hr_, hf, hs⟩
      subst hr_
      try dsimp only at hm
      refine wpL_seq ?_
      refine wpL_region ?_
      refine sY hf hs rfl rfl rfl (Y_assign rfl rfl) ?_; clear hf; intro a hf
      refine wpO_nil ?_
      obtain rfl := Option.some.inj hm
      refine wpL_ret (ret_tmp rfl hf rfl ?_)
      exact ⟨_, rfl, rfl, hs⟩

set_option maxRecDepth 100000 in
theorem laws_eqPlace_ok (F : Nat) (p0_a : GPlace) (p1_b : GPlace) (r : Bool) (W : World) (hm : laws_eqPlace F p0_a p1_b = some r) :
    Calls Try.prog 150 [.agg #[.int .i64 p0_a.From, .int .i64 p0_a.To, .int .i64 p0_a.Delay, .int .i64 p0_a.Tokens], .agg #[.int .i64 p1_b.From, .int .i64 p1_b.To, .int .i64 p1_b.Delay, .int .i64 p1_b.Tokens]].toArray W fun e w' => ∃ v, e = .returned v ∧ v = .bool r ∧ St [] W w' [] := by
  unfold laws_eqPlace at hm
  refine Calls.enter (N := 25) Try.func150 rfl rfl rfl (fun a hf => ?_)
  have hs := St.start W
  obtain ⟨w, hw_⟩ : ∃ w, w = W := ⟨W, rfl⟩
  clear hw_ w
  refine wpL_seq ?_
  refine wpL_region ?_
  refine sBox hf hs rfl rfl rfl rfl rfl (cs := [.int .i64 p0_a.From, .int .i64 p0_a.To, .int .i64 p0_a.Delay, .int .i64 p0_a.Tokens]) rfl ?_; clear hf hs; intro a w b1 hs hf
  have hs : St [] W w [.blk b1 96 [.int .i64 p0_a.From, .int .i64 p0_a.To, .int .i64 p0_a.Delay, .int .i64 p0_a.Tokens]] := hs
  refine sBox hf hs rfl rfl rfl rfl rfl (cs := [.int .i64 p1_b.From, .int .i64 p1_b.To, .int .i64 p1_b.Delay, .int .i64 p1_b.Tokens]) rfl ?_; clear hf hs; intro a w b2 hs hf
  have hs : St [] W w [.blk b1 96 [.int .i64 p0_a.From, .int .i64 p0_a.To, .int .i64 p0_a.Delay, .int .i64 p0_a.Tokens], .blk b2 96 [.int .i64 p1_b.From, .int .i64 p1_b.To, .int .i64 p1_b.Delay, .int .i64 p1_b.Tokens]] := hs
  refine sY hf hs rfl rfl rfl (Y_assign rfl rfl) ?_; clear hf; intro a hf
  refine wpO_nil ?_
  refine wpL_seq ?_
  refine wpL_seq ?_
  refine wpL_region ?_
  refine sY hf hs rfl rfl rfl (Y_fieldAddr rfl rfl fo96_0) ?_; clear hf; intro a hf
  refine sY hf hs rfl rfl rfl (Y_load_blk rfl rfl (i := 0) rfl rfl ag2) ?_; clear hf; intro a hf
  refine sY hf hs rfl rfl rfl (Y_fieldAddr rfl rfl fo96_0) ?_; clear hf; intro a hf
  refine sY hf hs rfl rfl rfl (Y_load_blk rfl rfl (i := 1) rfl rfl ag2) ?_; clear hf; intro a hf
  refine sY hf hs rfl rfl rfl (Y_neq rfl rfl rfl) ?_; clear hf; intro a hf
  refine wpO_nil ?_
  refine wpL_cond hf rfl (fun hb3 => ?_) (fun hb3 => ?_)
  · have hm := bif_t hm hb3
    refine wpL_seq ?_
    refine wpL_region ?_
    refine sY hf hs rfl rfl rfl (Y_assign rfl rfl) ?_; clear hf; intro a hf
    refine wpO_nil ?_
    obtain rfl := Option.some.inj hm
    refine wpL_ret (ret_tmp rfl hf rfl ?_)
    exact ⟨_, rfl, rfl, hs.sel [] (by decide)⟩
  · have hm := bif_f hm hb3
    refine wpL_skip ?_
    refine wpL_seq ?_
    refine wpL_seq ?_
    refine wpL_region ?_
    refine sY hf hs rfl rfl rfl (Y_fieldAddr rfl rfl fo96_1) ?_; clear hf; intro a hf
    refine sY hf hs rfl rfl rfl (Y_load_blk rfl rfl (i := 0) rfl rfl ag2) ?_; clear hf; intro a hf
    refine sY hf hs rfl rfl rfl (Y_fieldAddr rfl rfl fo96_1) ?_; clear hf; intro a hf
    refine sY hf hs rfl rfl rfl (Y_load_blk rfl rfl (i := 1) rfl rfl ag2) ?_; clear hf; intro a hf
    refine sY hf hs rfl rfl rfl (Y_neq rfl rfl rfl) ?_; clear hf; intro a hf
    refine wpO_nil ?_
    refine wpL_cond hf rfl (fun hb4 => ?_) (fun hb4 => ?_)
    · have hm := bif_t hm hb4
      refine wpL_seq ?_
      refine wpL_region ?_
      refine sY hf hs rfl rfl rfl (Y_assign rfl rfl) ?_; clear hf; intro a hf
      refine wpO_nil ?_
      obtain rfl := Option.some.inj hm
      refine wpL_ret (ret_tmp rfl hf rfl ?_)
      exact ⟨_, rfl, rfl, hs.sel [] (by decide)⟩
    · have hm := bif_f hm hb4
      refine wpL_skip ?_
      refine wpL_seq ?_
      refine wpL_seq ?_
      refine wpL_region ?_
      refine sY hf hs rfl rfl rfl (Y_fieldAddr rfl rfl fo96_2) ?_; clear hf; intro a hf
      refine sY hf hs rfl rfl rfl (Y_load_blk rfl rfl (i := 0) rfl rfl ag2) ?_; clear hf; intro a hf
      refine sY hf hs rfl rfl rfl (Y_fieldAddr rfl rfl fo96_2) ?_; clear hf; intro a hf
      refine sY hf hs rfl rfl rfl (Y_load_blk rfl rfl (i := 1) rfl rfl ag2) ?_; clear hf; intro a hf
      refine sY hf hs rfl rfl rfl (Y_neq rfl rfl rfl) ?_; clear hf; intro a hf
      refine wpO_nil ?_
      refine wpL_cond hf rfl (fun hb5 => ?_) (fun hb5 => ?_)
      · have hm := bif_t hm hb5
        refine wpL_seq ?_
        refine wpL_region ?_
        refine sY hf hs rfl rfl rfl (Y_assign rfl rfl) ?_; clear hf; intro a hf
        refine wpO_nil ?_
        obtain rfl := Option.some.inj hm
        refine wpL_ret (ret_tmp rfl hf rfl ?_)
        exact ⟨_, rfl, rfl, hs.sel [] (by decide)⟩
      · have hm := bif_f hm hb5
        refine wpL_skip ?_
        refine wpL_seq ?_
        refine wpL_seq ?_
        refine wpL_region ?_
        refine sY hf hs rfl rfl rfl (Y_fieldAddr rfl rfl fo96_3) ?_; clear hf; intro a hf
        refine sY hf hs rfl rfl rfl (Y_load_blk rfl rfl (i := 0) rfl rfl ag2) ?_; clear hf; intro a hf
        refine sY hf hs rfl rfl rfl (Y_fieldAddr rfl rfl fo96_3) ?_; clear hf; intro a hf
        refine sY hf hs rfl rfl rfl (Y_load_blk rfl rfl (i := 1) rfl rfl ag2) ?_; clear hf; intro a hf
        refine sY hf hs rfl rfl rfl (Y_neq rfl rfl rfl) ?_; clear hf; intro a hf
        refine wpO_nil ?_
        refine wpL_cond hf rfl (fun hb6 => ?_) (fun hb6 => ?_)
        · have hm := bif_t hm hb6
          refine wpL_seq ?_
          refine wpL_region ?_
          refine sY hf hs rfl rfl rfl (Y_assign rfl rfl) ?_; clear hf; intro a hf
          refine wpO_nil ?_
          obtain rfl := Option.some.inj hm
          refine wpL_ret (ret_tmp rfl hf rfl ?_)
          exact ⟨_, rfl, rfl, hs.sel [] (by decide)⟩
        · have hm := bif_f hm hb6
          refine wpL_skip ?_
          refine wpL_seq ?_
          refine wpL_region ?_
          refine sY hf hs rfl rfl rfl (Y_assign rfl rfl) ?_; clear hf; intro a hf
          refine wpO_nil ?_
          obtain rfl := Option.some.inj hm
          refine wpL_ret (ret_tmp rfl hf rfl ?_)
          exact ⟨_, rfl, rfl, hs.sel [] (by decide)⟩

set_option maxRecDepth 100000 in
theorem laws_eqPlaceS_ok (F : Nat) (p0_a : List GPlace) (A_p0_a_1 : Option Addr) (n_p0_a_1 c_p0_a_1 : Nat) (hn_p0_a_1 : n_p0_a_1 = p0_a.length) (p1_b : List GPlace) (A_p1_b_1 : Option Addr) (n_p1_b_1 c_p1_b_1 : Nat) (hn_p1_b_1 : n_p1_b_1 = p1_b.length) (r : Bool) (W : World) (hm : laws_eqPlaceS F p0_a p1_b = some r) (h_p0_a_1 : Rd W A_p0_a_1 ((recs GPlace.cells) p0_a)) (h_p1_b_1 : Rd W A_p1_b_1 ((recs GPlace.cells) p1_b)) :
    Calls Try.prog 84 [.slice A_p0_a_1 n_p0_a_1 c_p0_a_1, .slice A_p1_b_1 n_p1_b_1 c_p1_b_1].toArray W fun e w' => ∃ v, e = .returned v ∧ v = .bool r ∧ St [] W w' [] := by
  subst hn_p0_a_1
  subst hn_p1_b_1
  unfold laws_eqPlaceS at hm
  refine Calls.enter (N := 27) Try.func84 rfl rfl rfl (fun a hf => ?_)
  have hs := St.start W
  obtain ⟨w, hw_⟩ : ∃ w, w = W := ⟨W, rfl⟩
  clear hw_ w
  refine wpL_seq ?_
  refine wpL_region ?_
  refine sY hf hs rfl rfl rfl (Y_assign rfl rfl) ?_; clear hf; intro a hf
  refine wpO_nil ?_
  refine wpL_seq ?_
  refine wpL_seq ?_
  refine wpL_region ?_
  refine sY hf hs rfl rfl rfl (Y_move rfl rfl) ?_; clear hf; intro a hf
  refine sY hf hs rfl rfl rfl (Y_lenH rfl rfl el37 rfl) ?_; clear hf; intro a hf
  refine sY hf hs rfl rfl rfl (Y_move rfl rfl) ?_; clear hf; intro a hf
  refine sY hf hs rfl rfl rfl (Y_lenH rfl rfl el37 rfl) ?_; clear hf; intro a hf
  refine sY hf hs rfl rfl rfl (Y_neq rfl rfl rfl) ?_; clear hf; intro a hf
  refine wpO_nil ?_
  refine wpL_cond hf rfl (fun hb1 => ?_) (fun hb1 => ?_)
  · have hm := bif_t hm hb1
    refine wpL_seq ?_
    refine wpL_region ?_
    refine sY hf hs rfl rfl rfl (Y_assign rfl rfl) ?_; clear hf; intro a hf
    refine wpO_nil ?_
    obtain rfl := Option.some.inj hm
    refine wpL_ret (ret_tmp rfl hf rfl ?_)
    exact ⟨_, rfl, rfl, hs⟩
  · have hm := bif_f hm hb1
    refine wpL_skip ?_
    refine wpL_seq ?_
    refine wpL_seq ?_
    refine wpL_region ?_
    refine sY hf hs rfl rfl rfl (Y_assign rfl rfl) ?_; clear hf; intro a hf
    refine wpO_nil ?_
    obtain ⟨r28, hl29, hm⟩ := bind_some hm
    refine wpL_block (fun a w => Sum.inr () = r28 ∧ Fr a 27 [] ∧ St [] W w []) ?_ ?_
    · refine wpL_loop (fun n a w => ∃ x19 : Int, laws_eqPlaceS_L1 F p0_a p1_b n x19 = some r28 ∧ Fr a 27 [(0, .slice A_p0_a_1 p0_a.length c_p0_a_1), (1, .slice A_p1_b_1 p1_b.length c_p1_b_1), (5, .int .i64 x19)] ∧ St [] W w []) F ?_ ?_ ?_
      · exact ⟨0, hl29, (FrD.pick (FrD.pick (FrD.pick hf.none hf rfl) hf rfl) hf rfl), hs⟩
      · rintro a w ⟨x19, h0_, -, -⟩; simp [laws_eqPlaceS_L1] at h0_
      · rintro n31 a w ⟨x19, hm30, hf, hs⟩
        rw [laws_eqPlaceS_L1] at hm30
        refine wpL_seq ?_
        refine wpL_seq ?_
        refine wpL_region ?_
        refine sY hf hs rfl rfl rfl (Y_move rfl rfl) ?_; clear hf; intro a hf
        refine sY hf hs rfl rfl rfl (Y_move rfl rfl) ?_; clear hf; intro a hf
        refine sY hf hs rfl rfl rfl (Y_lenH rfl rfl el37 rfl) ?_; clear hf; intro a hf
        refine sY hf hs rfl rfl rfl (Y_lss rfl rfl rfl) ?_; clear hf; intro a hf
        refine wpO_nil ?_
        refine wpL_cond hf rfl (fun hb32 => ?_) (fun hb32 => ?_)
        · have hm30 := bif_t hm30 hb32
          refine wpL_skip ?_
          refine wpL_seq ?_
          refine wpL_block0 ?_
          refine wpL_seq ?_
          refine wpL_draw (by kernel_rfl) (by kernel_rfl) hs ?_
          refine qY hf rfl rfl rfl (Y_move rfl rfl) ?_; clear hf; intro a hf
          refine qY hf rfl rfl rfl (Y_move rfl rfl) ?_; clear hf; intro a hf
          obtain ⟨q33, hi34, hm30⟩ := bind_some hm30
          obtain ⟨hi34a, hi34b, hi34q⟩ := idx_some hi34
          refine qY hf rfl rfl rfl (Y_index rfl rfl rfl el37 ti96 (Rd.isAt (h_p0_a_1.at hs) (recs_at (s := 4) GPlace.len hi34q (j := 0) rfl)) hi34a hi34b) ?_; clear hf; intro a hf
          refine qY hf rfl rfl rfl (Y_load_rdS rfl rfl (us := [.int .i64 q33.From, .int .i64 q33.To, .int .i64 q33.Delay, .int .i64 q33.Tokens]) (fun w hs => h_p0_a_1.at hs) (fun j u hj => recs_at (s := 4) GPlace.len hi34q hj) (Nat.succ_pos _) ag96 ti96 rfl) ?_; clear hf; intro a hf
          refine qY hf rfl rfl rfl (Y_move rfl rfl) ?_; clear hf; intro a hf
          refine qY hf rfl rfl rfl (Y_move rfl rfl) ?_; clear hf; intro a hf
          obtain ⟨q35, hi36, hm30⟩ := bind_some hm30
          obtain ⟨hi36a, hi36b, hi36q⟩ := idx_some hi36
          refine qY hf rfl rfl rfl (Y_index rfl rfl rfl el37 ti96 (Rd.isAt (h_p1_b_1.at hs) (recs_at (s := 4) GPlace.len hi36q (j := 0) rfl)) hi36a hi36b) ?_; clear hf; intro a hf
          refine qY hf rfl rfl rfl (Y_load_rdS rfl rfl (us := [.int .i64 q35.From, .int .i64 q35.To, .int .i64 q35.Delay, .int .i64 q35.Tokens]) (fun w hs => h_p1_b_1.at hs) (fun j u hj => recs_at (s := 4) GPlace.len hi36q hj) (Nat.succ_pos _) ag96 ti96 rfl) ?_; clear hf; intro a hf
          obtain ⟨r37, hc38, hm30⟩ := bind_some hm30
          refine qCall hf rfl rfl rfl rfl (cap := []) rfl rfl en150 (v := .bool r37) (fun w hs => Calls.scal (laws_eqPlace_ok F q33 q35 _ _ hc38)) ?_; clear hf; intro a hf
          refine qY hf rfl rfl rfl (Y_not rfl rfl) ?_; clear hf; intro a hf
          refine qNil ?_; clear hs; intro w hs
          refine wpL_cond hf rfl (fun hb39 => ?_) (fun hb39 => ?_)
          · have hm30 := bif_t hm30 hb39
            refine wpL_seq ?_
            refine wpL_region ?_
            refine sY hf hs rfl rfl rfl (Y_assign rfl rfl) ?_; clear hf; intro a hf
            refine wpO_nil ?_
            obtain rfl := Option.some.inj hm30
            try dsimp only at hm
            obtain rfl := Option.some.inj hm
            refine wpL_ret (Qb_ret (Ql_ret (Qb_ret (ret_tmp rfl hf rfl ?_))))
            exact ⟨_, rfl, rfl, hs⟩
          · have hm30 := bif_f hm30 hb39
            refine wpL_skip ?_
            refine wpL_nil (Qb_normal ?_)
            refine wpL_region ?_
            refine sY hf hs rfl rfl rfl (Y_move rfl rfl) ?_; clear hf; intro a hf
            refine sY hf hs rfl rfl rfl (Y_add rfl rfl rfl) ?_; clear hf; intro a hf
            refine sY hf hs rfl rfl rfl (Y_assign rfl rfl) ?_; clear hf; intro a hf
            refine wpO_nil ?_
            refine wpL_nil (Ql_normal ?_)
            exact ⟨(IntKind.i64.wrap (x19 + 1)), hm30, (FrD.pick (FrD.pick (FrD.pick hf.none hf rfl) hf rfl) hf rfl), hs⟩
        · have hm30 := bif_f hm30 hb32
          refine wpL_exit (Ql_exit (Qb_exit ?_))
          exact ⟨Option.some.inj hm30, hf.none, hs⟩
    · rintro a w ⟨hr_, hf, hs⟩
      subst hr_
      try dsimp only at hm
      refine wpL_seq ?_
      refine wpL_region ?_
      refine sY hf hs rfl rfl rfl (Y_assign rfl rfl) ?_; clear hf; intro a hf
      refine wpO_nil ?_
      obtain rfl := Option.some.inj hm
      refine wpL_ret (ret_tmp rfl hf rfl ?_)
      exact ⟨_, rfl, rfl, hs⟩

set_option maxRecDepth 100000 in
theorem laws_eqEventGraph_ok (F : Nat) (p0_a : GEventGraph) (A_p0_a_1 : Option Addr) (n_p0_a_1 c_p0_a_1 : Nat) (hn_p0_a_1 : n_p0_a_1 = p0_a.Places.length) (p1_b : GEventGraph) (A_p1_b_1 : Option Addr) (n_p1_b_1 c_p1_b_1 : Nat) (hn_p1_b_1 : n_p1_b_1 = p1_b.Places.length) (r : Bool) (W : World) (hm : laws_eqEventGraph F p0_a p1_b = some r) (h_p0_a_1 : Rd W A_p0_a_1 ((recs GPlace.cells) p0_a.Places)) (h_p1_b_1 : Rd W A_p1_b_1 ((recs GPlace.cells) p1_b.Places)) :
    Calls Try.prog 28 [.agg #[.int .i64 p0_a.Events, .slice A_p0_a_1 n_p0_a_1 c_p0_a_1], .agg #[.int .i64 p1_b.Events, .slice A_p1_b_1 n_p1_b_1 c_p1_b_1]].toArray W fun e w' => ∃ v, e = .returned v ∧ v = .bool r ∧ St [] W w' [] := by
  subst hn_p0_a_1
  subst hn_p1_b_1
  unfold laws_eqEventGraph at hm
  refine Calls.enter (N := 16) Try.func28 rfl rfl rfl (fun a hf => ?_)
  have hs := St.start W
  obtain ⟨w, hw_⟩ : ∃ w, w = W := ⟨W, rfl⟩
  clear hw_ w
  refine wpL_seq ?_
  refine wpL_region ?_
  refine sBox hf hs rfl rfl rfl rfl rfl (cs := [.int .i64 p0_a.Events, .slice A_p0_a_1 p0_a.Places.length c_p0_a_1]) rfl ?_; clear hf hs; intro a w b1 hs hf
  have hs : St [] W w [.blk b1 39 [.int .i64 p0_a.Events, .slice A_p0_a_1 p0_a.Places.length c_p0_a_1]] := hs
  refine sBox hf hs rfl rfl rfl rfl rfl (cs := [.int .i64 p1_b.Events, .slice A_p1_b_1 p1_b.Places.length c_p1_b_1]) rfl ?_; clear hf hs; intro a w b2 hs hf
  have hs : St [] W w [.blk b1 39 [.int .i64 p0_a.Events, .slice A_p0_a_1 p0_a.Places.length c_p0_a_1], .blk b2 39 [.int .i64 p1_b.Events, .slice A_p1_b_1 p1_b.Places.length c_p1_b_1]] := hs
  refine sY hf hs rfl rfl rfl (Y_assign rfl rfl) ?_; clear hf; intro a hf
  refine wpO_nil ?_
  refine wpL_seq ?_
  refine wpL_seq ?_
  refine wpL_region ?_
  refine sY hf hs rfl rfl rfl (Y_fieldAddr rfl rfl fo39_0) ?_; clear hf; intro a hf
  refine sY hf hs rfl rfl rfl (Y_load_blk rfl rfl (i := 0) rfl rfl ag2) ?_; clear hf; intro a hf
  refine sY hf hs rfl rfl rfl (Y_fieldAddr rfl rfl fo39_0) ?_; clear hf; intro a hf
  refine sY hf hs rfl rfl rfl (Y_load_blk rfl rfl (i := 1) rfl rfl ag2) ?_; clear hf; intro a hf
  refine sY hf hs rfl rfl rfl (Y_neq rfl rfl rfl) ?_; clear hf; intro a hf
  refine wpO_nil ?_
  refine wpL_cond hf rfl (fun hb3 => ?_) (fun hb3 => ?_)
  · have hm := bif_t hm hb3
    refine wpL_seq ?_
    refine wpL_region ?_
    refine sY hf hs rfl rfl rfl (Y_assign rfl rfl) ?_; clear hf; intro a hf
    refine wpO_nil ?_
    obtain rfl := Option.some.inj hm
    refine wpL_ret (ret_tmp rfl hf rfl ?_)
    exact ⟨_, rfl, rfl, hs.sel [] (by decide)⟩
  · have hm := bif_f hm hb3
    refine wpL_skip ?_
    refine wpL_seq ?_
    refine wpL_seq ?_
    refine wpL_region ?_
    refine sY hf hs rfl rfl rfl (Y_fieldAddr rfl rfl fo39_1) ?_; clear hf; intro a hf
    refine sY hf hs rfl rfl rfl (Y_load_blk rfl rfl (i := 0) rfl rfl ag37) ?_; clear hf; intro a hf
    refine sY hf hs rfl rfl rfl (Y_fieldAddr rfl rfl fo39_1) ?_; clear hf; intro a hf
    refine sY hf hs rfl rfl rfl (Y_load_blk rfl rfl (i := 1) rfl rfl ag37) ?_; clear hf; intro a hf
    obtain ⟨r4, hc5, hm⟩ := bind_some hm
    refine sCall hf rfl rfl rfl rfl (cap := []) rfl rfl en84 (laws_eqPlaceS_ok F p0_a.Places A_p0_a_1 p0_a.Places.length c_p0_a_1 rfl p1_b.Places A_p1_b_1 p1_b.Places.length c_p1_b_1 rfl _ _ hc5 (h_p0_a_1.at hs) (h_p1_b_1.at hs)) ?_; clear hf
    rintro _ w ⟨rfl, hs1⟩ a hf
    have hs : St [] W w [.blk b1 39 [.int .i64 p0_a.Events, .slice A_p0_a_1 p0_a.Places.length c_p0_a_1], .blk b2 39 [.int .i64 p1_b.Events, .slice A_p1_b_1 p1_b.Places.length c_p1_b_1]] := hs.ext hs1.below
    clear hs1
    refine sY hf hs rfl rfl rfl (Y_not rfl rfl) ?_; clear hf; intro a hf
    refine wpO_nil ?_
    refine wpL_cond hf rfl (fun hb6 => ?_) (fun hb6 => ?_)
    · have hm := bif_t hm hb6
      refine wpL_seq ?_
      refine wpL_region ?_
      refine sY hf hs rfl rfl rfl (Y_assign rfl rfl) ?_; clear hf; intro a hf
      refine wpO_nil ?_
      obtain rfl := Option.some.inj hm
      refine wpL_ret (ret_tmp rfl hf rfl ?_)
      exact ⟨_, rfl, rfl, hs.sel [] (by decide)⟩
    · have hm := bif_f hm hb6
      refine wpL_skip ?_
      refine wpL_seq ?_
      refine wpL_region ?_
      refine sY hf hs rfl rfl rfl (Y_assign rfl rfl) ?_; clear hf; intro a hf
      refine wpO_nil ?_
      obtain rfl := Option.some.inj hm
      refine wpL_ret (ret_tmp rfl hf rfl ?_)
      exact ⟨_, rfl, rfl, hs.sel [] (by decide)⟩

set_option maxRecDepth 100000 in
theorem laws_markPlaceS_ok (F : Nat) (p0_a : List GPlace) (A_p0_a_1 : Option Addr) (n_p0_a_1 c_p0_a_1 : Nat) (hn_p0_a_1 : n_p0_a_1 = p0_a.length) (p1_k : Int) (r : (Int) × List GPlace) (W : World) (hm : laws_markPlaceS F p0_a p1_k = some r) (h_p0_a_1 : (Res.row A_p0_a_1 n_p0_a_1 c_p0_a_1 96 4 ((recs GPlace.cells) p0_a) : Res).holds 0 W) :
    Calls Try.prog 85 [.slice A_p0_a_1 n_p0_a_1 c_p0_a_1, .int .i64 p1_k].toArray W fun e w' => ∃ v, e = .returned v ∧ v = .int .i64 r.1 ∧ n_p0_a_1 = r.2.length ∧ St (muA A_p0_a_1) W w' [.row A_p0_a_1 n_p0_a_1 c_p0_a_1 96 4 ((recs GPlace.cells) r.2)] := by
  subst hn_p0_a_1
  unfold laws_markPlaceS at hm
  refine Calls.enter (N := 41) Try.func85 rfl rfl rfl (fun a hf => ?_)
  have hs : St (muA A_p0_a_1) W W [.row A_p0_a_1 p0_a.length c_p0_a_1 96 4 ((recs GPlace.cells) p0_a)] := St.startMut h_p0_a_1 (fun b hb => mem_muA hb)
  obtain ⟨w, hw_⟩ : ∃ w, w = W := ⟨W, rfl⟩
  clear hw_ w
  refine wpL_seq ?_
  refine wpL_region ?_
  refine sY hf hs rfl rfl rfl (Y_assign rfl rfl) ?_; clear hf; intro a hf
  refine wpO_nil ?_
  refine wpL_seq ?_
  refine wpL_seq ?_
  refine wpL_region ?_
  refine sY hf hs rfl rfl rfl (Y_assign rfl rfl) ?_; clear hf; intro a hf
  refine wpO_nil ?_
  obtain ⟨r63, hl64, hm⟩ := bind_some hm
  refine wpL_block (fun a w => ∃ xs60 : List GPlace, ∃ x62 : Int, (xs60, x62) = r63 ∧ p0_a.length = xs60.length ∧ Fr a 41 [(1, .int .i64 x62)] ∧ St (muA A_p0_a_1) W w [.row A_p0_a_1 p0_a.length c_p0_a_1 96 4 ((recs GPlace.cells) xs60)]) ?_ ?_
  · refine wpL_loop (fun n a w => ∃ xs39 : List GPlace, ∃ x41 : Int, ∃ x42 : Int, laws_markPlaceS_L1 F n xs39 x41 x42 = some r63 ∧ p0_a.length = xs39.length ∧ Fr a 41 [(0, .slice A_p0_a_1 p0_a.length c_p0_a_1), (1, .int .i64 x41), (5, .int .i64 x42)] ∧ St (muA A_p0_a_1) W w [.row A_p0_a_1 p0_a.length c_p0_a_1 96 4 ((recs GPlace.cells) xs39)]) F ?_ ?_ ?_
    · exact ⟨p0_a, p1_k, 0, hl64, rfl, (FrD.pick (FrD.pick (FrD.pick hf.none hf rfl) hf rfl) hf rfl), hs⟩
    · rintro a w ⟨xs39, x41, x42, h0_, -, -, -⟩; simp [laws_markPlaceS_L1] at h0_
    · rintro n66 a w ⟨xs39, x41, x42, hm65, hn40, hf, hs⟩
      rw [laws_markPlaceS_L1] at hm65
      refine wpL_seq ?_
      refine wpL_seq ?_
      refine wpL_region ?_
      refine sY hf hs rfl rfl rfl (Y_move rfl rfl) ?_; clear hf; intro a hf
      refine sY hf hs rfl rfl rfl (Y_move rfl rfl) ?_; clear hf; intro a hf
      refine sY hf hs rfl rfl rfl (Y_lenH rfl rfl el37 hn40) ?_; clear hf; intro a hf
      refine sY hf hs rfl rfl rfl (Y_lss rfl rfl rfl) ?_; clear hf; intro a hf
      refine wpO_nil ?_
      refine wpL_cond hf rfl (fun hb67 => ?_) (fun hb67 => ?_)
      · have hm65 := bif_t hm65 hb67
        refine wpL_skip ?_
        refine wpL_seq ?_
        refine wpL_block0 ?_
        refine wpL_seq ?_
        refine wpL_region ?_
        refine sY hf hs rfl rfl rfl (Y_move rfl rfl) ?_; clear hf; intro a hf
        refine sY hf hs rfl rfl rfl (Y_move rfl rfl) ?_; clear hf; intro a hf
        refine sY hf hs rfl rfl rfl (Y_move rfl rfl) ?_; clear hf; intro a hf
        obtain ⟨q68, hi69, hm65⟩ := bind_some hm65
        obtain ⟨hi69a, hi69b, hi69q⟩ := idx_some hi69
        refine sY hf hs rfl rfl rfl (Y_index rfl rfl rfl el37 ti96 (Rd.isAt (hs.rd (i := 0) rfl) (recs_at (s := 4) GPlace.len hi69q (j := 0) rfl)) hi69a (ltn hn40 hi69b)) ?_; clear hf; intro a hf
        refine sY hf hs rfl rfl rfl (Y_fieldAddrE rfl rfl fo96_0) ?_; clear hf; intro a hf
        obtain ⟨xs70, hu71, hm65⟩ := bind_some hm65
        refine sStoreF (i := 0) (s := 4) (fo := 0) (f := GPlace.cells) (x' := (GPlace.mk x41 q68.To q68.Delay q68.Tokens)) hf hs rfl rfl rfl rfl rfl rfl hi69q hu71 ti2 rfl rfl rfl GPlace.len rfl rfl ?_; clear hs; intro w hs
        have hs : St (muA A_p0_a_1) W w [.row A_p0_a_1 p0_a.length c_p0_a_1 96 4 ((recs GPlace.cells) xs70)] := hs
        refine wpO_nil ?_
        refine wpL_seq ?_
        refine wpL_region ?_
        refine sY hf hs rfl rfl rfl (Y_move rfl rfl) ?_; clear hf; intro a hf
        refine sY hf hs rfl rfl rfl (Y_add rfl rfl rfl) ?_; clear hf; intro a hf
        refine sY hf hs rfl rfl rfl (Y_assign rfl rfl) ?_; clear hf; intro a hf
        refine wpO_nil ?_
        refine wpL_seq ?_
        refine wpL_region ?_
        refine sY hf hs rfl rfl rfl (Y_move rfl rfl) ?_; clear hf; intro a hf
        refine sY hf hs rfl rfl rfl (Y_move rfl rfl) ?_; clear hf; intro a hf
        refine sY hf hs rfl rfl rfl (Y_move rfl rfl) ?_; clear hf; intro a hf
        obtain ⟨q72, hi73, hm65⟩ := bind_some hm65
        obtain ⟨hi73a, hi73b, hi73q⟩ := idx_some hi73
        refine sY hf hs rfl rfl rfl (Y_index rfl rfl rfl el37 ti96 (Rd.isAt (hs.rd (i := 0) rfl) (recs_at (s := 4) GPlace.len hi73q (j := 0) rfl)) hi73a (ltn ((hn40).trans (upd_len hu71).symm) hi73b)) ?_; clear hf; intro a hf
        refine sY hf hs rfl rfl rfl (Y_fieldAddrE rfl rfl fo96_1) ?_; clear hf; intro a hf
        obtain ⟨xs74, hu75, hm65⟩ := bind_some hm65
        refine sStoreF (i := 0) (s := 4) (fo := 1) (f := GPlace.cells) (x' := (GPlace.mk q72.From (IntKind.i64.wrap (x41 + 1)) q72.Delay q72.Tokens)) hf hs rfl rfl rfl rfl rfl rfl hi73q hu75 ti2 rfl rfl rfl GPlace.len rfl rfl ?_; clear hs; intro w hs
        have hs : St (muA A_p0_a_1) W w [.row A_p0_a_1 p0_a.length c_p0_a_1 96 4 ((recs GPlace.cells) xs74)] := hs
        refine wpO_nil ?_
        refine wpL_seq ?_
        refine wpL_region ?_
        refine sY hf hs rfl rfl rfl (Y_move rfl rfl) ?_; clear hf; intro a hf
        refine sY hf hs rfl rfl rfl (Y_add rfl rfl rfl) ?_; clear hf; intro a hf
        refine sY hf hs rfl rfl rfl (Y_assign rfl rfl) ?_; clear hf; intro a hf
        refine wpO_nil ?_
        refine wpL_seq ?_
        refine wpL_region ?_
        refine sY hf hs rfl rfl rfl (Y_move rfl rfl) ?_; clear hf; intro a hf
        refine sY hf hs rfl rfl rfl (Y_move rfl rfl) ?_; clear hf; intro a hf
        refine sY hf hs rfl rfl rfl (Y_move rfl rfl) ?_; clear hf; intro a hf
        obtain ⟨q76, hi77, hm65⟩ := bind_some hm65
        obtain ⟨hi77a, hi77b, hi77q⟩ := idx_some hi77
        refine sY hf hs rfl rfl rfl (Y_index rfl rfl rfl el37 ti96 (Rd.isAt (hs.rd (i := 0) rfl) (recs_at (s := 4) GPlace.len hi77q (j := 0) rfl)) hi77a (ltn ((((hn40).trans (upd_len hu71).symm)).trans (upd_len hu75).symm) hi77b)) ?_; clear hf; intro a hf
        refine sY hf hs rfl rfl rfl (Y_fieldAddrE rfl rfl fo96_2) ?_; clear hf; intro a hf
        obtain ⟨xs78, hu79, hm65⟩ := bind_some hm65
        refine sStoreF (i := 0) (s := 4) (fo := 2) (f := GPlace.cells) (x' := (GPlace.mk q76.From q76.To (IntKind.i64.wrap ((IntKind.i64.wrap (x41 + 1)) + 1)) q76.Tokens)) hf hs rfl rfl rfl rfl rfl rfl hi77q hu79 ti2 rfl rfl rfl GPlace.len rfl rfl ?_; clear hs; intro w hs
        have hs : St (muA A_p0_a_1) W w [.row A_p0_a_1 p0_a.length c_p0_a_1 96 4 ((recs GPlace.cells) xs78)] := hs
        refine wpO_nil ?_
        refine wpL_seq ?_
        refine wpL_region ?_
        refine sY hf hs rfl rfl rfl (Y_move rfl rfl) ?_; clear hf; intro a hf
        refine sY hf hs rfl rfl rfl (Y_add rfl rfl rfl) ?_; clear hf; intro a hf
        refine sY hf hs rfl rfl rfl (Y_assign rfl rfl) ?_; clear hf; intro a hf
        refine wpO_nil ?_
        refine wpL_seq ?_
        refine wpL_region ?_
        refine sY hf hs rfl rfl rfl (Y_move rfl rfl) ?_; clear hf; intro a hf
        refine sY hf hs rfl rfl rfl (Y_move rfl rfl) ?_; clear hf; intro a hf
        refine sY hf hs rfl rfl rfl (Y_move rfl rfl) ?_; clear hf; intro a hf
        obtain ⟨q80, hi81, hm65⟩ := bind_some hm65
        obtain ⟨hi81a, hi81b, hi81q⟩ := idx_some hi81
        refine sY hf hs rfl rfl rfl (Y_index rfl rfl rfl el37 ti96 (Rd.isAt (hs.rd (i := 0) rfl) (recs_at (s := 4) GPlace.len hi81q (j := 0) rfl)) hi81a (ltn ((((((hn40).trans (upd_len hu71).symm)).trans (upd_len hu75).symm)).trans (upd_len hu79).symm) hi81b)) ?_; clear hf; intro a hf
        refine sY hf hs rfl rfl rfl (Y_fieldAddrE rfl rfl fo96_3) ?_; clear hf; intro a hf
        obtain ⟨xs82, hu83, hm65⟩ := bind_some hm65
        refine sStoreF (i := 0) (s := 4) (fo := 3) (f := GPlace.cells) (x' := (GPlace.mk q80.From q80.To q80.Delay (IntKind.i64.wrap ((IntKind.i64.wrap ((IntKind.i64.wrap (x41 + 1)) + 1)) + 1)))) hf hs rfl rfl rfl rfl rfl rfl hi81q hu83 ti2 rfl rfl rfl GPlace.len rfl rfl ?_; clear hs; intro w hs
        have hs : St (muA A_p0_a_1) W w [.row A_p0_a_1 p0_a.length c_p0_a_1 96 4 ((recs GPlace.cells) xs82)] := hs
        refine wpO_nil ?_
        refine wpL_region ?_
        refine sY hf hs rfl rfl rfl (Y_move rfl rfl) ?_; clear hf; intro a hf
        refine sY hf hs rfl rfl rfl (Y_add rfl rfl rfl) ?_; clear hf; intro a hf
        refine sY hf hs rfl rfl rfl (Y_assign rfl rfl) ?_; clear hf; intro a hf
        refine wpO_nil ?_
        refine wpL_nil (Qb_normal ?_)
        refine wpL_region ?_
        refine sY hf hs rfl rfl rfl (Y_move rfl rfl) ?_; clear hf; intro a hf
        refine sY hf hs rfl rfl rfl (Y_add rfl rfl rfl) ?_; clear hf; intro a hf
        refine sY hf hs rfl rfl rfl (Y_assign rfl rfl) ?_; clear hf; intro a hf
        refine wpO_nil ?_
        refine wpL_nil (Ql_normal ?_)
        exact ⟨xs82, (IntKind.i64.wrap ((IntKind.i64.wrap ((IntKind.i64.wrap ((IntKind.i64.wrap (x41 + 1)) + 1)) + 1)) + 1)), (IntKind.i64.wrap (x42 + 1)), hm65, ((((((((hn40).trans (upd_len hu71).symm)).trans (upd_len hu75).symm)).trans (upd_len hu79).symm)).trans (upd_len hu83).symm), (FrD.pick (FrD.pick (FrD.pick hf.none hf rfl) hf rfl) hf rfl), hs⟩
      · have hm65 := bif_f hm65 hb67
        refine wpL_exit (Ql_exit (Qb_exit ?_))
        exact ⟨xs39, x41, Option.some.inj hm65, hn40, (FrD.pick hf.none hf rfl), hs⟩
  · rintro a w ⟨xs60, x62, hr_, hn61, hf, hs⟩
    subst hr_
    try dsimp only at hm
    refine wpL_seq ?_
    refine wpL_region ?_
    refine sY hf hs rfl rfl rfl (Y_move rfl rfl) ?_; clear hf; intro a hf
    refine sY hf hs rfl rfl rfl (Y_assign rfl rfl) ?_; clear hf; intro a hf
    refine wpO_nil ?_
    obtain rfl := Option.some.inj hm
    refine wpL_ret (ret_tmp rfl hf rfl ?_)
    exact ⟨_, rfl, rfl, hn61, hs⟩

set_option maxRecDepth 100000 in
theorem laws_markEventGraph_ok (F : Nat) (p0_a : GEventGraph) (A_p0_a_1 : Option Addr) (n_p0_a_1 c_p0_a_1 : Nat) (hn_p0_a_1 : n_p0_a_1 = p0_a.Places.length) (p1_k : Int) (r : (Int) × List GPlace) (W : World) (hm : laws_markEventGraph F p0_a p1_k = some r) (h_p0_a_1 : (Res.row A_p0_a_1 n_p0_a_1 c_p0_a_1 96 4 ((recs GPlace.cells) p0_a.Places) : Res).holds 0 W) :
    Calls Try.prog 29 [.agg #[.int .i64 p0_a.Events, .slice A_p0_a_1 n_p0_a_1 c_p0_a_1], .int .i64 p1_k].toArray W fun e w' => ∃ v, e = .returned v ∧ v = .int .i64 r.1 ∧ n_p0_a_1 = r.2.length ∧ St (muA A_p0_a_1) W w' [.row A_p0_a_1 n_p0_a_1 c_p0_a_1 96 4 ((recs GPlace.cells) r.2)] := by
  subst hn_p0_a_1
  unfold laws_markEventGraph at hm
  refine Calls.enter (N := 10) Try.func29 rfl rfl rfl (fun a hf => ?_)
  have hs : St (muA A_p0_a_1) W W [.row A_p0_a_1 p0_a.Places.length c_p0_a_1 96 4 ((recs GPlace.cells) p0_a.Places)] := St.startMut h_p0_a_1 (fun b hb => mem_muA hb)
  obtain ⟨w, hw_⟩ : ∃ w, w = W := ⟨W, rfl⟩
  clear hw_ w
  refine wpL_seq ?_
  refine wpL_region ?_
  refine sBox hf hs rfl rfl rfl rfl rfl (cs := [.int .i64 p0_a.Events, .slice A_p0_a_1 p0_a.Places.length c_p0_a_1]) rfl ?_; clear hf hs; intro a w b1 hs hf
  have hs : St (muA A_p0_a_1) W w [.row A_p0_a_1 p0_a.Places.length c_p0_a_1 96 4 ((recs GPlace.cells) p0_a.Places), .blk b1 39 [.int .i64 p0_a.Events, .slice A_p0_a_1 p0_a.Places.length c_p0_a_1]] := hs
  refine sY hf hs rfl rfl rfl (Y_assign rfl rfl) ?_; clear hf; intro a hf
  refine wpO_nil ?_
  refine wpL_seq ?_
  refine wpL_region ?_
  refine sY hf hs rfl rfl rfl (Y_fieldAddr rfl rfl fo39_1) ?_; clear hf; intro a hf
  refine sY hf hs rfl rfl rfl (Y_load_blk rfl rfl (i := 1) rfl rfl ag37) ?_; clear hf; intro a hf
  refine sY hf hs rfl rfl rfl (Y_move rfl rfl) ?_; clear hf; intro a hf
  obtain ⟨r2, hc3, hm⟩ := bind_some hm
  refine sCall hf rfl rfl rfl rfl (cap := []) rfl rfl en85 (laws_markPlaceS_ok F p0_a.Places A_p0_a_1 p0_a.Places.length c_p0_a_1 rfl p1_k _ _ hc3 (hs.res _ _ (show _[0]? = some _ from rfl))) ?_; clear hf
  rintro _ w ⟨rfl, hn4, hs1⟩ a hf
  have hs : St (muA A_p0_a_1) W w [.row A_p0_a_1 p0_a.Places.length c_p0_a_1 96 4 ((recs GPlace.cells) r2.2), .blk b1 39 [.int .i64 p0_a.Events, .slice A_p0_a_1 p0_a.Places.length c_p0_a_1]] := hs.mut (i := 0) rfl (fun b hb => muA_mem hb) hs1
  clear hs1
  refine sY hf hs rfl rfl rfl (Y_assign rfl rfl) ?_; clear hf; intro a hf
  refine wpO_nil ?_
  refine wpL_seq ?_
  refine wpL_region ?_
  refine sY hf hs rfl rfl rfl (Y_move rfl rfl) ?_; clear hf; intro a hf
  refine sY hf hs rfl rfl rfl (Y_assign rfl rfl) ?_; clear hf; intro a hf
  refine wpO_nil ?_
  obtain rfl := Option.some.inj hm
  refine wpL_ret (ret_tmp rfl hf rfl ?_)
  exact ⟨_, rfl, rfl, hn4, hs.sel [0] (by decide)⟩

set_option maxRecDepth 100000 in
theorem laws_markInt64S_ok (F : Nat) (p0_a : List Int) (A_p0_a_1 : Option Addr) (n_p0_a_1 c_p0_a_1 : Nat) (hn_p0_a_1 : n_p0_a_1 = p0_a.length) (p1_k : Int) (r : (Int) × List Int) (W : World) (hm : laws_markInt64S F p0_a p1_k = some r) (h_p0_a_1 : (Res.row A_p0_a_1 n_p0_a_1 c_p0_a_1 2 1 (ints p0_a) : Res).holds 0 W) :
    Calls Try.prog 22 [.slice A_p0_a_1 n_p0_a_1 c_p0_a_1, .int .i64 p1_k].toArray W fun e w' => ∃ v, e = .returned v ∧ v = .int .i64 r.1 ∧ n_p0_a_1 = r.2.length ∧ St (muA A_p0_a_1) W w' [.row A_p0_a_1 n_p0_a_1 c_p0_a_1 2 1 (ints r.2)] := by
  subst hn_p0_a_1
  unfold laws_markInt64S at hm
  refine Calls.enter (N := 19) Try.func22 rfl rfl rfl (fun a hf => ?_)
  have hs : St (muA A_p0_a_1) W W [.row A_p0_a_1 p0_a.length c_p0_a_1 2 1 (ints p0_a)] := St.startMut h_p0_a_1 (fun b hb => mem_muA hb)
  obtain ⟨w, hw_⟩ : ∃ w, w = W := ⟨W, rfl⟩
  clear hw_ w
  refine wpL_seq ?_
  refine wpL_region ?_
  refine sY hf hs rfl rfl rfl (Y_assign rfl rfl) ?_; clear hf; intro a hf
  refine wpO_nil ?_
  refine wpL_seq ?_
  refine wpL_seq ?_
  refine wpL_region ?_
  refine sY hf hs rfl rfl rfl (Y_assign rfl rfl) ?_; clear hf; intro a hf
  refine wpO_nil ?_
  obtain ⟨r27, hl28, hm⟩ := bind_some hm
  refine wpL_block (fun a w => ∃ xs24 : List Int, ∃ x26 : Int, (xs24, x26) = r27 ∧ p0_a.length = xs24.length ∧ Fr a 19 [(1, .int .i64 x26)] ∧ St (muA A_p0_a_1) W w [.row A_p0_a_1 p0_a.length c_p0_a_1 2 1 (ints xs24)]) ?_ ?_
  · refine wpL_loop (fun n a w => ∃ xs15 : List Int, ∃ x17 : Int, ∃ x18 : Int, laws_markInt64S_L1 F n xs15 x17 x18 = some r27 ∧ p0_a.length = xs15.length ∧ Fr a 19 [(0, .slice A_p0_a_1 p0_a.length c_p0_a_1), (1, .int .i64 x17), (5, .int .i64 x18)] ∧ St (muA A_p0_a_1) W w [.row A_p0_a_1 p0_a.length c_p0_a_1 2 1 (ints xs15)]) F ?_ ?_ ?_
    · exact ⟨p0_a, p1_k, 0, hl28, rfl, (FrD.pick (FrD.pick (FrD.pick hf.none hf rfl) hf rfl) hf rfl), hs⟩
    · rintro a w ⟨xs15, x17, x18, h0_, -, -, -⟩; simp [laws_markInt64S_L1] at h0_
    · rintro n30 a w ⟨xs15, x17, x18, hm29, hn16, hf, hs⟩
      rw [laws_markInt64S_L1] at hm29
      refine wpL_seq ?_
      refine wpL_seq ?_
      refine wpL_region ?_
      refine sY hf hs rfl rfl rfl (Y_move rfl rfl) ?_; clear hf; intro a hf
      refine sY hf hs rfl rfl rfl (Y_move rfl rfl) ?_; clear hf; intro a hf
      refine sY hf hs rfl rfl rfl (Y_lenH rfl rfl el23 hn16) ?_; clear hf; intro a hf
      refine sY hf hs rfl rfl rfl (Y_lss rfl rfl rfl) ?_; clear hf; intro a hf
      refine wpO_nil ?_
      refine wpL_cond hf rfl (fun hb31 => ?_) (fun hb31 => ?_)
      · have hm29 := bif_t hm29 hb31
        refine wpL_skip ?_
        refine wpL_seq ?_
        refine wpL_block0 ?_
        refine wpL_seq ?_
        refine wpL_region ?_
        refine sY hf hs rfl rfl rfl (Y_move rfl rfl) ?_; clear hf; intro a hf
        refine sY hf hs rfl rfl rfl (Y_move rfl rfl) ?_; clear hf; intro a hf
        refine sY hf hs rfl rfl rfl (Y_move rfl rfl) ?_; clear hf; intro a hf
        obtain ⟨q32, hi33, hm29⟩ := bind_some hm29
        obtain ⟨hi33a, hi33b, hi33q⟩ := idx_some hi33
        refine sY hf hs rfl rfl rfl (Y_index rfl rfl rfl el23 ti2 (Rd.isAt (hs.rd (i := 0) rfl) (at1 (ints_at hi33q))) hi33a (ltn hn16 hi33b)) ?_; clear hf; intro a hf
        obtain ⟨xs34, hu35, hm29⟩ := bind_some hm29
        refine sStoreL (i := 0) (us := [.int .i64 x17]) (enc := ints) hf hs rfl rfl rfl rfl rfl rfl hn16 hu35 ti2 rfl rfl rfl rfl rfl ints_len1 (ints_set x17) ?_; clear hs; intro w hs
        have hs : St (muA A_p0_a_1) W w [.row A_p0_a_1 p0_a.length c_p0_a_1 2 1 (ints xs34)] := hs
        refine wpO_nil ?_
        refine wpL_region ?_
        refine sY hf hs rfl rfl rfl (Y_move rfl rfl) ?_; clear hf; intro a hf
        refine sY hf hs rfl rfl rfl (Y_add rfl rfl rfl) ?_; clear hf; intro a hf
        refine sY hf hs rfl rfl rfl (Y_assign rfl rfl) ?_; clear hf; intro a hf
        refine wpO_nil ?_
        refine wpL_nil (Qb_normal ?_)
        refine wpL_region ?_
        refine sY hf hs rfl rfl rfl (Y_move rfl rfl) ?_; clear hf; intro a hf
        refine sY hf hs rfl rfl rfl (Y_add rfl rfl rfl) ?_; clear hf; intro a hf
        refine sY hf hs rfl rfl rfl (Y_assign rfl rfl) ?_; clear hf; intro a hf
        refine wpO_nil ?_
        refine wpL_nil (Ql_normal ?_)
        exact ⟨xs34, (IntKind.i64.wrap (x17 + 1)), (IntKind.i64.wrap (x18 + 1)), hm29, ((hn16).trans (upd_len hu35).symm), (FrD.pick (FrD.pick (FrD.pick hf.none hf rfl) hf rfl) hf rfl), hs⟩
      · have hm29 := bif_f hm29 hb31
        refine wpL_exit (Ql_exit (Qb_exit ?_))
        exact ⟨xs15, x17, Option.some.inj hm29, hn16, (FrD.pick hf.none hf rfl), hs⟩
  · rintro a w ⟨xs24, x26, hr_, hn25, hf, hs⟩
    subst hr_
    try dsimp only at hm
    refine wpL_seq ?_
    refine wpL_region ?_
    refine sY hf hs rfl rfl rfl (Y_move rfl rfl) ?_; clear hf; intro a hf
    refine sY hf hs rfl rfl rfl (Y_assign rfl rfl) ?_; clear hf; intro a hf
    refine wpO_nil ?_
    obtain rfl := Option.some.inj hm
    refine wpL_ret (ret_tmp rfl hf rfl ?_)
    exact ⟨_, rfl, rfl, hn25, hs⟩

set_option maxRecDepth 100000 in
theorem laws_markInt64SS_ok (F : Nat) (p0_a : List (List Int)) (A_p0_a_1 : Option Addr) (n_p0_a_1 c_p0_a_1 : Nat) (hn_p0_a_1 : n_p0_a_1 = p0_a.length) (vs_p0_a : List Value) (p1_k : Int) (r : (Int) × List (List Int)) (W : World) (hm : laws_markInt64SS F p0_a p1_k = some r) (h_p0_a_1 : (Res.mat A_p0_a_1 n_p0_a_1 c_p0_a_1 23 2 vs_p0_a p0_a : Res).holds 0 W) :
    Calls Try.prog 36 [.slice A_p0_a_1 n_p0_a_1 c_p0_a_1, .int .i64 p1_k].toArray W fun e w' => ∃ v, e = .returned v ∧ v = .int .i64 r.1 ∧ n_p0_a_1 = r.2.length ∧ St (muM A_p0_a_1 vs_p0_a) W w' [.mat A_p0_a_1 n_p0_a_1 c_p0_a_1 23 2 vs_p0_a r.2] := by
  subst hn_p0_a_1
  unfold laws_markInt64SS at hm
  refine Calls.enter (N := 19) Try.func36 rfl rfl rfl (fun a hf => ?_)
  have hs : St (muM A_p0_a_1 vs_p0_a) W W [.mat A_p0_a_1 p0_a.length c_p0_a_1 23 2 vs_p0_a p0_a] := St.startMut h_p0_a_1 (fun b hb => muM_mem.2 hb)
  obtain ⟨w, hw_⟩ : ∃ w, w = W := ⟨W, rfl⟩
  clear hw_ w
  refine wpL_seq ?_
  refine wpL_region ?_
  refine sY hf hs rfl rfl rfl (Y_assign rfl rfl) ?_; clear hf; intro a hf
  refine wpO_nil ?_
  refine wpL_seq ?_
  refine wpL_seq ?_
  refine wpL_region ?_
  refine sY hf hs rfl rfl rfl (Y_assign rfl rfl) ?_; clear hf; intro a hf
  refine wpO_nil ?_
  obtain ⟨r45, hl46, hm⟩ := bind_some hm
  refine wpL_block (fun a w => ∃ ms42 : List (List Int), ∃ x44 : Int, (ms42, x44) = r45 ∧ p0_a.length = ms42.length ∧ Fr a 19 [(1, .int .i64 x44)] ∧ St (muM A_p0_a_1 vs_p0_a) W w [.mat A_p0_a_1 p0_a.length c_p0_a_1 23 2 vs_p0_a ms42]) ?_ ?_
  · refine wpL_loop (fun n a w => ∃ ms27 : List (List Int), ∃ x29 : Int, ∃ x30 : Int, laws_markInt64SS_L1 F n ms27 x29 x30 = some r45 ∧ p0_a.length = ms27.length ∧ Fr a 19 [(0, .slice A_p0_a_1 p0_a.length c_p0_a_1), (1, .int .i64 x29), (5, .int .i64 x30)] ∧ St (muM A_p0_a_1 vs_p0_a) W w [.mat A_p0_a_1 p0_a.length c_p0_a_1 23 2 vs_p0_a ms27]) F ?_ ?_ ?_
    · exact ⟨p0_a, p1_k, 0, hl46, rfl, (FrD.pick (FrD.pick (FrD.pick hf.none hf rfl) hf rfl) hf rfl), hs⟩
    · rintro a w ⟨ms27, x29, x30, h0_, -, -, -⟩; simp [laws_markInt64SS_L1] at h0_
    · rintro n48 a w ⟨ms27, x29, x30, hm47, hn28, hf, hs⟩
      rw [laws_markInt64SS_L1] at hm47
      refine wpL_seq ?_
      refine wpL_seq ?_
      refine wpL_region ?_
      refine sY hf hs rfl rfl rfl (Y_move rfl rfl) ?_; clear hf; intro a hf
      refine sY hf hs rfl rfl rfl (Y_move rfl rfl) ?_; clear hf; intro a hf
      refine sY hf hs rfl rfl rfl (Y_lenH rfl rfl el46 hn28) ?_; clear hf; intro a hf
      refine sY hf hs rfl rfl rfl (Y_lss rfl rfl rfl) ?_; clear hf; intro a hf
      refine wpO_nil ?_
      refine wpL_cond hf rfl (fun hb49 => ?_) (fun hb49 => ?_)
      · have hm47 := bif_t hm47 hb49
        refine wpL_skip ?_
        refine wpL_seq ?_
        refine wpL_block0 ?_
        refine wpL_region ?_
        refine sY hf hs rfl rfl rfl (Y_move rfl rfl) ?_; clear hf; intro a hf
        refine sY hf hs rfl rfl rfl (Y_move rfl rfl) ?_; clear hf; intro a hf
        obtain ⟨q50, hi51, hm47⟩ := bind_some hm47
        obtain ⟨hi51a, hi51b, hi51q⟩ := idx_some hi51
        obtain ⟨A52, c53, hv54⟩ := hs.matRow (i := 0) rfl hi51q
        refine sY hf hs rfl rfl rfl (Y_index rfl rfl rfl el46 ti23 (Rd.isAt (hs.rdV (i := 0) rfl) hv54) hi51a (ltn hn28 hi51b)) ?_; clear hf; intro a hf
        refine sY hf hs rfl rfl rfl (Y_load_rd rfl rfl (fun w hs => hs.rdV (i := 0) rfl) (at1 hv54) ag23) ?_; clear hf; intro a hf
        refine sY hf hs rfl rfl rfl (Y_move rfl rfl) ?_; clear hf; intro a hf
        obtain ⟨r55, hc56, hm47⟩ := bind_some hm47
        refine sCall hf rfl rfl rfl rfl (cap := []) rfl rfl en22 (laws_markInt64S_ok F q50 A52 q50.length c53 rfl x29 _ _ hc56 (hs.rowHolds (i := 0) rfl ⟨hi51q, hv54⟩)) ?_; clear hf
        obtain ⟨ms59, hu58, hm47⟩ := bind_some hm47
        rintro _ w ⟨rfl, hn57, hs1⟩ a hf
        have hs : St (muM A_p0_a_1 vs_p0_a) W w [.mat A_p0_a_1 p0_a.length c_p0_a_1 23 2 vs_p0_a ms59] := hs.mutRow (i := 0) rfl ⟨hi51q, hv54⟩ hs1 hn57 hu58
        clear hs1
        refine sY hf hs rfl rfl rfl (Y_assign rfl rfl) ?_; clear hf; intro a hf
        refine wpO_nil ?_
        refine wpL_nil (Qb_normal ?_)
        refine wpL_region ?_
        refine sY hf hs rfl rfl rfl (Y_move rfl rfl) ?_; clear hf; intro a hf
        refine sY hf hs rfl rfl rfl (Y_add rfl rfl rfl) ?_; clear hf; intro a hf
        refine sY hf hs rfl rfl rfl (Y_assign rfl rfl) ?_; clear hf; intro a hf
        refine wpO_nil ?_
        refine wpL_nil (Ql_normal ?_)
        exact ⟨ms59, r55.1, (IntKind.i64.wrap (x30 + 1)), hm47, ((hn28).trans (upd_len hu58).symm), (FrD.pick (FrD.pick (FrD.pick hf.none hf rfl) hf rfl) hf rfl), hs⟩
      · have hm47 := bif_f hm47 hb49
        refine wpL_exit (Ql_exit (Qb_exit ?_))
        exact ⟨ms27, x29, Option.some.inj hm47, hn28, (FrD.pick hf.none hf rfl), hs⟩
  · rintro a w ⟨ms42, x44, hr_, hn43, hf, hs⟩
    subst hr_
    try dsimp only at hm
    refine wpL_seq ?_
    refine wpL_region ?_
    refine sY hf hs rfl rfl rfl (Y_move rfl rfl) ?_; clear hf; intro a hf
    refine sY hf hs rfl rfl rfl (Y_assign rfl rfl) ?_; clear hf; intro a hf
    refine wpO_nil ?_
    obtain rfl := Option.some.inj hm
    refine wpL_ret (ret_tmp rfl hf rfl ?_)
    exact ⟨_, rfl, rfl, hn43, hs⟩

set_option maxRecDepth 100000 in
theorem laws_heldInt64S_ok (F : Nat) (p0_a : List Int) (A_p0_a_1 : Option Addr) (n_p0_a_1 c_p0_a_1 : Nat) (hn_p0_a_1 : n_p0_a_1 = p0_a.length) (p1_k : Int) (r : Int) (W : World) (hm : laws_heldInt64S F p0_a p1_k = some r) (h_p0_a_1 : Rd W A_p0_a_1 (ints p0_a)) :
    Calls Try.prog 23 [.slice A_p0_a_1 n_p0_a_1 c_p0_a_1, .int .i64 p1_k].toArray W fun e w' => ∃ v, e = .returned v ∧ v = .int .i64 r ∧ St [] W w' [] := by
  subst hn_p0_a_1
  unfold laws_heldInt64S at hm
  refine Calls.enter (N := 21) Try.func23 rfl rfl rfl (fun a hf => ?_)
  have hs := St.start W
  obtain ⟨w, hw_⟩ : ∃ w, w = W := ⟨W, rfl⟩
  clear hw_ w
  refine wpL_seq ?_
  refine wpL_region ?_
  refine sY hf hs rfl rfl rfl (Y_assign rfl rfl) ?_; clear hf; intro a hf
  refine wpO_nil ?_
  refine wpL_seq ?_
  refine wpL_seq ?_
  refine wpL_region ?_
  refine sY hf hs rfl rfl rfl (Y_assign rfl rfl) ?_; clear hf; intro a hf
  refine wpO_nil ?_
  obtain ⟨r18, hl19, hm⟩ := bind_some hm
  refine wpL_block (fun a w => ∃ x17 : Int, Sum.inr x17 = r18 ∧ Fr a 21 [(1, .int .i64 x17)] ∧ St [] W w []) ?_ ?_
  · refine wpL_loop (fun n a w => ∃ x11 : Int, ∃ x12 : Int, laws_heldInt64S_L1 F p0_a n x11 x12 = some r18 ∧ Fr a 21 [(0, .slice A_p0_a_1 p0_a.length c_p0_a_1), (1, .int .i64 x11), (5, .int .i64 x12)] ∧ St [] W w []) F ?_ ?_ ?_
    · exact ⟨p1_k, 0, hl19, (FrD.pick (FrD.pick (FrD.pick hf.none hf rfl) hf rfl) hf rfl), hs⟩
    · rintro a w ⟨x11, x12, h0_, -, -⟩; simp [laws_heldInt64S_L1] at h0_
    · rintro n21 a w ⟨x11, x12, hm20, hf, hs⟩
      rw [laws_heldInt64S_L1] at hm20
      refine wpL_seq ?_
      refine wpL_seq ?_
      refine wpL_region ?_
      refine sY hf hs rfl rfl rfl (Y_move rfl rfl) ?_; clear hf; intro a hf
      refine sY hf hs rfl rfl rfl (Y_move rfl rfl) ?_; clear hf; intro a hf
      refine sY hf hs rfl rfl rfl (Y_lenH rfl rfl el23 rfl) ?_; clear hf; intro a hf
      refine sY hf hs rfl rfl rfl (Y_lss rfl rfl rfl) ?_; clear hf; intro a hf
      refine wpO_nil ?_
      refine wpL_cond hf rfl (fun hb22 => ?_) (fun hb22 => ?_)
      · have hm20 := bif_t hm20 hb22
        refine wpL_skip ?_
        refine wpL_seq ?_
        refine wpL_block0 ?_
        refine wpL_seq ?_
        refine wpL_seq ?_
        refine wpL_region ?_
        refine sY hf hs rfl rfl rfl (Y_move rfl rfl) ?_; clear hf; intro a hf
        refine sY hf hs rfl rfl rfl (Y_move rfl rfl) ?_; clear hf; intro a hf
        obtain ⟨q23, hi24, hm20⟩ := bind_some hm20
        obtain ⟨hi24a, hi24b, hi24q⟩ := idx_some hi24
        refine sY hf hs rfl rfl rfl (Y_index rfl rfl rfl el23 ti2 (Rd.isAt (h_p0_a_1.at hs) (at1 (ints_at hi24q))) hi24a hi24b) ?_; clear hf; intro a hf
        refine sY hf hs rfl rfl rfl (Y_load_rd rfl rfl (fun w hs => h_p0_a_1.at hs) (at1 (ints_at hi24q)) ag2) ?_; clear hf; intro a hf
        refine sY hf hs rfl rfl rfl (Y_move rfl rfl) ?_; clear hf; intro a hf
        refine sY hf hs rfl rfl rfl (Y_neq rfl rfl rfl) ?_; clear hf; intro a hf
        refine wpO_nil ?_
        refine wpL_cond hf rfl (fun hb25 => ?_) (fun hb25 => ?_)
        · have hm20 := bif_t hm20 hb25
          refine wpL_seq ?_
          refine wpL_region ?_
          refine sY hf hs rfl rfl rfl (Y_assign rfl rfl) ?_; clear hf; intro a hf
          refine wpO_nil ?_
          obtain rfl := Option.some.inj hm20
          try dsimp only at hm
          obtain rfl := Option.some.inj hm
          refine wpL_ret (Qb_ret (Ql_ret (Qb_ret (ret_tmp rfl hf rfl ?_))))
          exact ⟨_, rfl, rfl, hs⟩
        · have hm20 := bif_f hm20 hb25
          refine wpL_skip ?_
          refine wpL_region ?_
          refine sY hf hs rfl rfl rfl (Y_move rfl rfl) ?_; clear hf; intro a hf
          refine sY hf hs rfl rfl rfl (Y_add rfl rfl rfl) ?_; clear hf; intro a hf
          refine sY hf hs rfl rfl rfl (Y_assign rfl rfl) ?_; clear hf; intro a hf
          refine wpO_nil ?_
          refine wpL_nil (Qb_normal ?_)
          refine wpL_region ?_
          refine sY hf hs rfl rfl rfl (Y_move rfl rfl) ?_; clear hf; intro a hf
          refine sY hf hs rfl rfl rfl (Y_add rfl rfl rfl) ?_; clear hf; intro a hf
          refine sY hf hs rfl rfl rfl (Y_assign rfl rfl) ?_; clear hf; intro a hf
          refine wpO_nil ?_
          refine wpL_nil (Ql_normal ?_)
          exact ⟨(IntKind.i64.wrap (x11 + 1)), (IntKind.i64.wrap (x12 + 1)), hm20, (FrD.pick (FrD.pick (FrD.pick hf.none hf rfl) hf rfl) hf rfl), hs⟩
      · have hm20 := bif_f hm20 hb22
        refine wpL_exit (Ql_exit (Qb_exit ?_))
        exact ⟨x11, Option.some.inj hm20, (FrD.pick hf.none hf rfl), hs⟩
  · rintro a w ⟨x17, hr_, hf, hs⟩
    subst hr_
    try dsimp only at hm
    refine wpL_seq ?_
    refine wpL_region ?_
    refine sY hf hs rfl rfl rfl (Y_move rfl rfl) ?_; clear hf; intro a hf
    refine sY hf hs rfl rfl rfl (Y_assign rfl rfl) ?_; clear hf; intro a hf
    refine wpO_nil ?_
    obtain rfl := Option.some.inj hm
    refine wpL_ret (ret_tmp rfl hf rfl ?_)
    exact ⟨_, rfl, rfl, hs⟩

set_option maxRecDepth 100000 in
theorem laws_heldInt64SS_ok (F : Nat) (p0_a : List (List Int)) (A_p0_a_1 : Option Addr) (n_p0_a_1 c_p0_a_1 : Nat) (hn_p0_a_1 : n_p0_a_1 = p0_a.length) (p1_k : Int) (r : Int) (W : World) (hm : laws_heldInt64SS F p0_a p1_k = some r) (h_p0_a_1 : RdM W A_p0_a_1 p0_a) :
    Calls Try.prog 37 [.slice A_p0_a_1 n_p0_a_1 c_p0_a_1, .int .i64 p1_k].toArray W fun e w' => ∃ v, e = .returned v ∧ v = .int .i64 r ∧ St [] W w' [] := by
  subst hn_p0_a_1
  unfold laws_heldInt64SS at hm
  refine Calls.enter (N := 21) Try.func37 rfl rfl rfl (fun a hf => ?_)
  have hs := St.start W
  obtain ⟨w, hw_⟩ : ∃ w, w = W := ⟨W, rfl⟩
  clear hw_ w
  refine wpL_seq ?_
  refine wpL_region ?_
  refine sY hf hs rfl rfl rfl (Y_assign rfl rfl) ?_; clear hf; intro a hf
  refine wpO_nil ?_
  refine wpL_seq ?_
  refine wpL_seq ?_
  refine wpL_region ?_
  refine sY hf hs rfl rfl rfl (Y_assign rfl rfl) ?_; clear hf; intro a hf
  refine wpO_nil ?_
  obtain ⟨r45, hl46, hm⟩ := bind_some hm
  refine wpL_block (fun a w => ∃ x44 : Int, Sum.inr x44 = r45 ∧ Fr a 21 [(1, .int .i64 x44)] ∧ St [] W w []) ?_ ?_
  · refine wpL_loop (fun n a w => ∃ x29 : Int, ∃ x30 : Int, laws_heldInt64SS_L1 F p0_a n x29 x30 = some r45 ∧ Fr a 21 [(0, .slice A_p0_a_1 p0_a.length c_p0_a_1), (1, .int .i64 x29), (5, .int .i64 x30)] ∧ St [] W w []) F ?_ ?_ ?_
    · exact ⟨p1_k, 0, hl46, (FrD.pick (FrD.pick (FrD.pick hf.none hf rfl) hf rfl) hf rfl), hs⟩
    · rintro a w ⟨x29, x30, h0_, -, -⟩; simp [laws_heldInt64SS_L1] at h0_
    · rintro n48 a w ⟨x29, x30, hm47, hf, hs⟩
      rw [laws_heldInt64SS_L1] at hm47
      refine wpL_seq ?_
      refine wpL_seq ?_
      refine wpL_region ?_
      refine sY hf hs rfl rfl rfl (Y_move rfl rfl) ?_; clear hf; intro a hf
      refine sY hf hs rfl rfl rfl (Y_move rfl rfl) ?_; clear hf; intro a hf
      refine sY hf hs rfl rfl rfl (Y_lenH rfl rfl el46 rfl) ?_; clear hf; intro a hf
      refine sY hf hs rfl rfl rfl (Y_lss rfl rfl rfl) ?_; clear hf; intro a hf
      refine wpO_nil ?_
      refine wpL_cond hf rfl (fun hb49 => ?_) (fun hb49 => ?_)
      · have hm47 := bif_t hm47 hb49
        refine wpL_skip ?_
        refine wpL_seq ?_
        refine wpL_block0 ?_
        refine wpL_seq ?_
        refine wpL_region ?_
        refine sY hf hs rfl rfl rfl (Y_move rfl rfl) ?_; clear hf; intro a hf
        refine sY hf hs rfl rfl rfl (Y_move rfl rfl) ?_; clear hf; intro a hf
        obtain ⟨q50, hi51, hm47⟩ := bind_some hm47
        obtain ⟨hi51a, hi51b, hi51q⟩ := idx_some hi51
        obtain ⟨vs52, hv53, hr54⟩ := id h_p0_a_1
        obtain ⟨A55, c56, hv57, hR58⟩ := hr54 _ _ hi51q
        refine sY hf hs rfl rfl rfl (Y_index rfl rfl rfl el46 ti23 (Rd.isAt hv53 hv57) hi51a hi51b) ?_; clear hf; intro a hf
        refine sY hf hs rfl rfl rfl (Y_load_rd rfl rfl (fun w hs => hv53.at hs) (at1 hv57) ag23) ?_; clear hf; intro a hf
        refine sY hf hs rfl rfl rfl (Y_move rfl rfl) ?_; clear hf; intro a hf
        obtain ⟨r59, hc60, hm47⟩ := bind_some hm47
        refine sCall hf rfl rfl rfl rfl (cap := []) rfl rfl en23 (laws_heldInt64S_ok F q50 A55 q50.length c56 rfl x29 _ _ hc60 (hR58.at hs)) ?_; clear hf
        rintro _ w ⟨rfl, hs1⟩ a hf
        have hs : St [] W w [] := hs.ext hs1.below
        clear hs1
        refine sY hf hs rfl rfl rfl (Y_assign rfl rfl) ?_; clear hf; intro a hf
        refine wpO_nil ?_
        refine wpL_seq ?_
        refine wpL_region ?_
        refine sY hf hs rfl rfl rfl (Y_move rfl rfl) ?_; clear hf; intro a hf
        refine sY hf hs rfl rfl rfl (Y_lss rfl rfl rfl) ?_; clear hf; intro a hf
        refine wpO_nil ?_
        refine wpL_cond hf rfl (fun hb61 => ?_) (fun hb61 => ?_)
        · have hm47 := bif_t hm47 hb61
          refine wpL_seq ?_
          refine wpL_region ?_
          refine sY hf hs rfl rfl rfl (Y_assign rfl rfl) ?_; clear hf; intro a hf
          refine wpO_nil ?_
          obtain rfl := Option.some.inj hm47
          try dsimp only at hm
          obtain rfl := Option.some.inj hm
          refine wpL_ret (Qb_ret (Ql_ret (Qb_ret (ret_tmp rfl hf rfl ?_))))
          exact ⟨_, rfl, rfl, hs⟩
        · have hm47 := bif_f hm47 hb61
          refine wpL_skip ?_
          refine wpL_nil (Qb_normal ?_)
          refine wpL_region ?_
          refine sY hf hs rfl rfl rfl (Y_move rfl rfl) ?_; clear hf; intro a hf
          refine sY hf hs rfl rfl rfl (Y_add rfl rfl rfl) ?_; clear hf; intro a hf
          refine sY hf hs rfl rfl rfl (Y_assign rfl rfl) ?_; clear hf; intro a hf
          refine wpO_nil ?_
          refine wpL_nil (Ql_normal ?_)
          exact ⟨r59, (IntKind.i64.wrap (x30 + 1)), hm47, (FrD.pick (FrD.pick (FrD.pick hf.none hf rfl) hf rfl) hf rfl), hs⟩
      · have hm47 := bif_f hm47 hb49
        refine wpL_exit (Ql_exit (Qb_exit ?_))
        exact ⟨x29, Option.some.inj hm47, (FrD.pick hf.none hf rfl), hs⟩
  · rintro a w ⟨x44, hr_, hf, hs⟩
    subst hr_
    try dsimp only at hm
    refine wpL_seq ?_
    refine wpL_region ?_
    refine sY hf hs rfl rfl rfl (Y_move rfl rfl) ?_; clear hf; intro a hf
    refine sY hf hs rfl rfl rfl (Y_assign rfl rfl) ?_; clear hf; intro a hf
    refine wpO_nil ?_
    obtain rfl := Option.some.inj hm
    refine wpL_ret (ret_tmp rfl hf rfl ?_)
    exact ⟨_, rfl, rfl, hs⟩

end Go.Proofs.Ytpmebacdmilecaa
