/- The functions do what their models say. -/
import Derived.Test.YtebmlphobgaboabLatestTablesLifted4
import Derived.Test.YtebmlphobgaboabRows
namespace Go.Proofs.Ytebmlphobgaboab
open Go.RowKit

set_option maxRecDepth 100000 in
theorem impl_EarliestTimetable_ok (F : Nat) (ag : GEventGraph) (ah : Option Addr) (ax aj : Nat) (aC : ax = ag.Places.length) (aG : Int) (r : GTimetable × Int) (W : World) (hm : impl_EarliestTimetable F ag aG = some r) (ay : Rd W ah ((recs GPlace.cells) ag.Places)) :
  Calls Try.prog 55 [.agg #[.int .i64 ag.Events, .slice ah ax aj], .int .i64 aG].toArray W fun e w' => ∃ v, e = .returned v ∧ ∃ A15, ∃ n16, ∃ c17, v = .tuple #[.agg #[.int .i64 r.1.Period, .slice A15 n16 c17], .int .i64 r.2] ∧ n16 = r.1.Starts.length ∧ St [] W w' [.row A15 n16 c17 2 1 (ints r.1.Starts)] := by
 subst aC
 unfold impl_EarliestTimetable at hm
 refine Calls.enter (N := 29) Try.func55 rfl rfl rfl (fun a hf => ?_)
 have hs := St.start W
 obtain ⟨w, hw_⟩ : ∃ w, w = W := ⟨W, rfl⟩
 clear hw_ w
 refine wpL_seq <| wpL_region ?_
 refine sBox hf hs rfl rfl rfl rfl rfl (cs := [.int .i64 ag.Events, .slice ah ag.Places.length aj]) rfl ?_; clear hf hs; intro a w b1 hs hf
 have hs : St [] W w [.blk b1 55 [.int .i64 ag.Events, .slice ah ag.Places.length aj]] := hs
 refine sAlloc hf hs rfl rfl rfl rfl ti66 ?_; clear hf hs; intro a w b2 hs hf
 have hs : St [] W w [.blk b1 55 [.int .i64 ag.Events, .slice ah ag.Places.length aj], .blk b2 66 [.int .i64 0, .slice none 0 0]] := hs
 refine sY hf hs rfl rfl rfl (Y_assign rfl rfl) ?_; clear hf; intro a hf
 refine wpO_nil <| wpL_seq <| wpL_seq <| wpL_region ?_
 refine sY hf hs rfl rfl rfl (Y_load_blkS rfl rfl (i := 0) rfl ag55 ti55 rfl) ?_; clear hf; intro a hf
 refine sY hf hs rfl rfl rfl (Y_move rfl rfl) ?_; clear hf; intro a hf
 obtain ⟨r3, hc4, hm⟩ := bind_some hm
 refine sCall hf rfl rfl rfl rfl (cap := []) rfl rfl en118 (impl_checkPeriod_ok F ag ah ag.Places.length aj rfl aG _ _ hc4 (ay.at hs)) ?_; clear hf
 rintro _ w ⟨rfl, hs1⟩ a hf
 have hs : St [] W w [.blk b1 55 [.int .i64 ag.Events, .slice ah ag.Places.length aj], .blk b2 66 [.int .i64 0, .slice none 0 0]] := hs.ext hs1.below
 clear hs1
 refine sY hf hs rfl rfl rfl (Y_assign rfl rfl) ?_; clear hf; intro a hf
 refine wpO_nil <| wpL_seq <| wpL_region ?_
 refine sY hf hs rfl rfl rfl (Y_move rfl rfl) ?_; clear hf; intro a hf
 refine sY hf hs rfl rfl rfl (Y_neq rfl rfl rfl) ?_; clear hf; intro a hf
 refine wpO_nil ?_
 refine wpL_cond hf rfl (fun hb5 => ?_) (fun hb5 => ?_)
 ·have hm := bif_t hm hb5
  refine wpL_seq <| wpL_region ?_
  refine sY hf hs rfl rfl rfl (Y_build (parts := []) (vs := []) rfl rfl (run_build (parts := []) (cells := [.int .i64 0, .slice none 0 0]) (places := #[(0, 1), (1, 1)]) ti66 Try.underlying66 (fun w => by simp [go_sem]) rfl)) ?_; clear hf; intro a hf
  refine sY hf hs rfl rfl rfl (Y_move rfl rfl) ?_; clear hf; intro a hf
  refine sStore (i := 1) (us := [.int .i64 0, .slice none 0 0]) hf hs rfl rfl rfl rfl rfl rfl ti66 rfl rfl rfl (Nat.le_of_ble_eq_true rfl) rfl ?_; clear hs; intro w hs
  have hs : St [] W w [.blk b1 55 [.int .i64 ag.Events, .slice ah ag.Places.length aj], .blk b2 66 [.int .i64 0, .slice none 0 0]] := hs
  refine sY hf hs rfl rfl rfl (Y_assign rfl rfl) ?_; clear hf; intro a hf
  refine wpO_nil ?_
  have hs : St [] W _ [.blk b1 55 [.int .i64 ag.Events, .slice ah ag.Places.length aj], .blk b2 66 [.int .i64 0, .slice none 0 0], .row none 0 0 2 1 (ints ([] : List Int))] := hs.addNil 2 1
  obtain rfl := Option.some.inj hm
  refine wpL_ret (ret_cell_tmp rfl hf rfl rfl hs (i := 1) rfl ag66 ti66 rfl ?_)
  exact ⟨_, rfl, none, 0, 0, rfl, rfl, hs.sel [2] (by decide)⟩
 ·have hm := bif_f hm hb5
  refine wpL_skip <| wpL_seq <| wpL_region ?_
  refine sY hf hs rfl rfl rfl (Y_load_blkS rfl rfl (i := 0) rfl ag55 ti55 rfl) ?_; clear hf; intro a hf
  refine sY hf hs rfl rfl rfl (Y_move rfl rfl) ?_; clear hf; intro a hf
  refine sY hf hs rfl rfl rfl (Y_build (parts := [(0, .tmp 18), (1, .const (.int .i64 1))]) (vs := [.int .i64 aG, .int .i64 1]) rfl rfl (run_build (parts := [(0, .int .i64 aG), (1, .int .i64 1)]) (cells := [.int .i64 aG, .int .i64 1]) (places := #[(0, 1), (1, 1)]) ti129 Try.underlying129 (fun w => by simp [go_sem]) rfl)) ?_; clear hf; intro a hf
  obtain ⟨r7, hc8, hm⟩ := bind_some hm
  refine sCall hf rfl rfl rfl rfl (cap := []) rfl rfl en127 (impl_timePotential_ok F ag ah ag.Places.length aj rfl (GRatio.mk aG 1) _ _ hc8 (ay.at hs)) ?_; clear hf
  rintro _ w ⟨A9, n10, c11, rfl, hn12, hs1⟩ a hf
  have hs : St [] W w [.blk b1 55 [.int .i64 ag.Events, .slice ah ag.Places.length aj], .blk b2 66 [.int .i64 0, .slice none 0 0], .row A9 n10 c11 2 1 (ints r7.1)] := hs.join hs1
  clear hs1
  refine sY hf hs rfl rfl rfl (Y_move rfl rfl) ?_; clear hf; intro a hf
  refine sY hf hs rfl rfl rfl (Y_extract rfl rfl rfl) ?_; clear hf; intro a hf
  refine sY hf hs rfl rfl rfl (Y_extract rfl rfl rfl) ?_; clear hf; intro a hf
  refine sY hf hs rfl rfl rfl (Y_assign rfl rfl) ?_; clear hf; intro a hf
  refine sY hf hs rfl rfl rfl (Y_assign rfl rfl) ?_; clear hf; intro a hf
  refine wpO_nil <| wpL_seq <| wpL_seq <| wpL_region ?_
  refine sY hf hs rfl rfl rfl (Y_move rfl rfl) ?_; clear hf; intro a hf
  refine sY hf hs rfl rfl rfl (Y_not rfl rfl) ?_; clear hf; intro a hf
  refine wpO_nil ?_
  refine wpL_cond hf rfl (fun hb13 => ?_) (fun hb13 => ?_)
  ·have hm := bif_t hm hb13
   refine wpL_seq <| wpL_region ?_
   refine sY hf hs rfl rfl rfl (Y_build (parts := []) (vs := []) rfl rfl (run_build (parts := []) (cells := [.int .i64 0, .slice none 0 0]) (places := #[(0, 1), (1, 1)]) ti66 Try.underlying66 (fun w => by simp [go_sem]) rfl)) ?_; clear hf; intro a hf
   refine sStore (i := 1) (us := [.int .i64 0, .slice none 0 0]) hf hs rfl rfl rfl rfl rfl rfl ti66 rfl rfl rfl (Nat.le_of_ble_eq_true rfl) rfl ?_; clear hs; intro w hs
   have hs : St [] W w [.blk b1 55 [.int .i64 ag.Events, .slice ah ag.Places.length aj], .blk b2 66 [.int .i64 0, .slice none 0 0], .row A9 n10 c11 2 1 (ints r7.1)] := hs
   refine sY hf hs rfl rfl rfl (Y_assign rfl rfl) ?_; clear hf; intro a hf
   refine wpO_nil ?_
   have hs : St [] W _ [.blk b1 55 [.int .i64 ag.Events, .slice ah ag.Places.length aj], .blk b2 66 [.int .i64 0, .slice none 0 0], .row A9 n10 c11 2 1 (ints r7.1), .row none 0 0 2 1 (ints ([] : List Int))] := hs.addNil 2 1
   obtain rfl := Option.some.inj hm
   refine wpL_ret (ret_cell_tmp rfl hf rfl rfl hs (i := 1) rfl ag66 ti66 rfl ?_)
   exact ⟨_, rfl, none, 0, 0, rfl, rfl, hs.sel [3] (by decide)⟩
  ·have hm := bif_f hm hb13
   refine wpL_skip <| wpL_seq <| wpL_region ?_
   refine sY hf hs rfl rfl rfl (Y_move rfl rfl) ?_; clear hf; intro a hf
   refine sY hf hs rfl rfl rfl (Y_move rfl rfl) ?_; clear hf; intro a hf
   refine sY hf hs rfl rfl rfl (Y_build (parts := [(0, .tmp 26), (1, .tmp 27)]) (vs := [.int .i64 aG, .slice A9 n10 c11]) rfl rfl (run_build (parts := [(0, .int .i64 aG), (1, .slice A9 n10 c11)]) (cells := [.int .i64 aG, .slice A9 n10 c11]) (places := #[(0, 1), (1, 1)]) ti66 Try.underlying66 (fun w => by simp [go_sem]) rfl)) ?_; clear hf; intro a hf
   refine sStore (i := 1) (us := [.int .i64 aG, .slice A9 n10 c11]) hf hs rfl rfl rfl rfl rfl rfl ti66 rfl rfl rfl (Nat.le_of_ble_eq_true rfl) rfl ?_; clear hs; intro w hs
   have hs : St [] W w [.blk b1 55 [.int .i64 ag.Events, .slice ah ag.Places.length aj], .blk b2 66 [.int .i64 aG, .slice A9 n10 c11], .row A9 n10 c11 2 1 (ints r7.1)] := hs
   refine sY hf hs rfl rfl rfl (Y_assign rfl rfl) ?_; clear hf; intro a hf
   refine wpO_nil ?_
   obtain rfl := Option.some.inj hm
   refine wpL_ret (ret_cell_tmp rfl hf rfl rfl hs (i := 1) rfl ag66 ti66 rfl ?_)
   exact ⟨_, rfl, A9, n10, c11, rfl, hn12, hs.sel [2] (by decide)⟩

set_option maxRecDepth 100000 in
theorem laws_below9_ok (F : Nat) (aw : List Int) (av : Option Addr) (aO az : Nat) (aS : aO = aw.length) (aD : List Int) (aB : Option Addr) (aU aL : Nat) (bb : aU = aD.length) (r : Bool) (W : World) (hm : laws_below9 F aw aD = some r) (aP : Rd W av (ints aw)) (aW : Rd W aB (ints aD)) :
  Calls Try.prog 23 [.slice av aO az, .slice aB aU aL].toArray W fun e w' => ∃ v, e = .returned v ∧ v = .bool r ∧ St [] W w' [] := by
 subst aS
 subst bb
 unfold laws_below9 at hm
 refine Calls.enter (N := 26) Try.func23 rfl rfl rfl (fun a hf => ?_)
 have hs := St.start W
 obtain ⟨w, hw_⟩ : ∃ w, w = W := ⟨W, rfl⟩
 clear hw_ w
 refine wpL_seq <| wpL_region ?_
 refine sY hf hs rfl rfl rfl (Y_assign rfl rfl) ?_; clear hf; intro a hf
 refine wpO_nil <| wpL_seq <| wpL_seq <| wpL_region ?_
 refine sY hf hs rfl rfl rfl (Y_move rfl rfl) ?_; clear hf; intro a hf
 refine sY hf hs rfl rfl rfl (Y_lenH rfl rfl el28 rfl) ?_; clear hf; intro a hf
 refine sY hf hs rfl rfl rfl (Y_move rfl rfl) ?_; clear hf; intro a hf
 refine sY hf hs rfl rfl rfl (Y_lenH rfl rfl el28 rfl) ?_; clear hf; intro a hf
 refine sY hf hs rfl rfl rfl (Y_neq rfl rfl rfl) ?_; clear hf; intro a hf
 refine wpO_nil ?_
 refine wpL_cond hf rfl (fun hb1 => ?_) (fun hb1 => ?_)
 ·have hm := bif_t hm hb1
  refine wpL_seq <| wpL_region ?_
  refine sY hf hs rfl rfl rfl (Y_assign rfl rfl) ?_; clear hf; intro a hf
  refine wpO_nil ?_
  obtain rfl := Option.some.inj hm
  refine wpL_ret (ret_tmp rfl hf rfl ?_)
  exact ⟨_, rfl, rfl, hs⟩
 ·have hm := bif_f hm hb1
  refine wpL_skip <| wpL_seq <| wpL_seq <| wpL_region ?_
  refine sY hf hs rfl rfl rfl (Y_assign rfl rfl) ?_; clear hf; intro a hf
  refine wpO_nil ?_
  obtain ⟨r22, hl23, hm⟩ := bind_some hm
  refine wpL_block (fun a w => Sum.inr () = r22 ∧ Fr a 26 [] ∧ St [] W w []) ?_ ?_
  ·refine wpL_loop (fun n a w => ∃ x15 : Int, laws_below9_L1 F aw aD n x15 = some r22 ∧ Fr a 26 [(0, .slice av aw.length az), (1, .slice aB aD.length aL), (5, .int .i64 x15)] ∧ St [] W w []) F ?_ ?_ ?_
   ·exact ⟨0, hl23, (FrD.pick (FrD.pick (FrD.pick hf.none hf rfl) hf rfl) hf rfl), hs⟩
   ·rintro a w ⟨x15, h0_, -, -⟩; simp [laws_below9_L1] at h0_
   ·rintro n25 a w ⟨x15, hm24, hf, hs⟩
    rw [laws_below9_L1] at hm24
    refine wpL_seq <| wpL_seq <| wpL_region ?_
    refine sY hf hs rfl rfl rfl (Y_move rfl rfl) ?_; clear hf; intro a hf
    refine sY hf hs rfl rfl rfl (Y_move rfl rfl) ?_; clear hf; intro a hf
    refine sY hf hs rfl rfl rfl (Y_lenH rfl rfl el28 rfl) ?_; clear hf; intro a hf
    refine sY hf hs rfl rfl rfl (Y_lss rfl rfl rfl) ?_; clear hf; intro a hf
    refine wpO_nil ?_
    refine wpL_cond hf rfl (fun hb26 => ?_) (fun hb26 => ?_)
    ·have hm24 := bif_t hm24 hb26
     refine wpL_skip <| wpL_seq <| wpL_block0 <| wpL_seq ?_
     refine wpL_draw (by kernel_rfl) (by kernel_rfl) hs ?_
     refine qY hf rfl rfl rfl (Y_move rfl rfl) ?_; clear hf; intro a hf
     refine qY hf rfl rfl rfl (Y_move rfl rfl) ?_; clear hf; intro a hf
     obtain ⟨q27, hi28, hm24⟩ := bind_some hm24
     obtain ⟨hi28a, hi28b, hi28q⟩ := idx_some hi28
     refine qY hf rfl rfl rfl (Y_index rfl rfl rfl el28 ti2 (Rd.isAt (aP.at hs) (at1 (ints_at hi28q))) hi28a hi28b) ?_; clear hf; intro a hf
     refine qY hf rfl rfl rfl (Y_load_rd rfl rfl (fun w hs => aP.at hs) (at1 (ints_at hi28q)) ag2) ?_; clear hf; intro a hf
     refine qY hf rfl rfl rfl (Y_move rfl rfl) ?_; clear hf; intro a hf
     refine qY hf rfl rfl rfl (Y_move rfl rfl) ?_; clear hf; intro a hf
     obtain ⟨q29, hi30, hm24⟩ := bind_some hm24
     obtain ⟨hi30a, hi30b, hi30q⟩ := idx_some hi30
     refine qY hf rfl rfl rfl (Y_index rfl rfl rfl el28 ti2 (Rd.isAt (aW.at hs) (at1 (ints_at hi30q))) hi30a hi30b) ?_; clear hf; intro a hf
     refine qY hf rfl rfl rfl (Y_load_rd rfl rfl (fun w hs => aW.at hs) (at1 (ints_at hi30q)) ag2) ?_; clear hf; intro a hf
     refine qY hf rfl rfl rfl (Y_gtr rfl rfl rfl) ?_; clear hf; intro a hf
     refine qNil ?_; clear hs; intro w hs
     refine wpL_cond hf rfl (fun hb31 => ?_) (fun hb31 => ?_)
     ·have hm24 := bif_t hm24 hb31
      refine wpL_seq <| wpL_region ?_
      refine sY hf hs rfl rfl rfl (Y_assign rfl rfl) ?_; clear hf; intro a hf
      refine wpO_nil ?_
      obtain rfl := Option.some.inj hm24
      try dsimp only at hm
      obtain rfl := Option.some.inj hm
      refine wpL_ret (Qb_ret (Ql_ret (Qb_ret (ret_tmp rfl hf rfl ?_))))
      exact ⟨_, rfl, rfl, hs⟩
     ·have hm24 := bif_f hm24 hb31
      refine wpL_skip ?_
      refine wpL_nil (Qb_normal ?_)
      refine wpL_region ?_
      refine sY hf hs rfl rfl rfl (Y_move rfl rfl) ?_; clear hf; intro a hf
      refine sY hf hs rfl rfl rfl (Y_add rfl rfl rfl) ?_; clear hf; intro a hf
      refine sY hf hs rfl rfl rfl (Y_assign rfl rfl) ?_; clear hf; intro a hf
      refine wpO_nil ?_
      refine wpL_nil (Ql_normal ?_)
      exact ⟨(IntKind.i64.wrap (x15 + 1)), hm24, (FrD.pick (FrD.pick (FrD.pick hf.none hf rfl) hf rfl) hf rfl), hs⟩
    ·have hm24 := bif_f hm24 hb26
     refine wpL_exit (Ql_exit (Qb_exit ?_))
     exact ⟨Option.some.inj hm24, hf.none, hs⟩
  ·rintro a w ⟨hr_, hf, hs⟩
   subst hr_
   try dsimp only at hm
   refine wpL_seq <| wpL_region ?_
   refine sY hf hs rfl rfl rfl (Y_assign rfl rfl) ?_; clear hf; intro a hf
   refine wpO_nil ?_
   obtain rfl := Option.some.inj hm
   refine wpL_ret (ret_tmp rfl hf rfl ?_)
   exact ⟨_, rfl, rfl, hs⟩

set_option maxHeartbeats 2000000 in
set_option maxRecDepth 100000 in
theorem laws_FnLatestTables_ok (F : Nat) (p0 : List Int) (ao : Option Addr) (aZ aq : Nat) (bK : aZ = p0.length) (r : Bool) (W : World) (hm : laws_FnLatestTables F p0 = some r) (aV : Rd W ao (bytes p0)) :
  Calls Try.prog 7 [.slice ao aZ aq].toArray W fun e w' => ∃ v, e = .returned v ∧ v = .bool r ∧ St [] W w' [] := by
 subst bK
 unfold laws_FnLatestTables at hm
 refine Calls.enter (N := 148) Try.func7 rfl rfl rfl (fun a hf => ?_)
 have hs := St.start W
 obtain ⟨w, hw_⟩ : ∃ w, w = W := ⟨W, rfl⟩
 clear hw_ w
 refine wpL_seq <| wpL_region ?_
 refine sY hf hs rfl rfl rfl (Y_assign rfl rfl) ?_; clear hf; intro a hf
 refine wpO_nil <| wpL_seq <| wpL_seq <| wpL_region ?_
 refine sY hf hs rfl rfl rfl (Y_move rfl rfl) ?_; clear hf; intro a hf
 obtain ⟨r1, hc2, hm⟩ := bind_some hm
 refine sCall hf rfl rfl rfl rfl (cap := []) rfl rfl en9 (laws_big_ok F p0 ao p0.length aq rfl _ _ hc2 (aV.at hs)) ?_; clear hf
 rintro _ w ⟨rfl, hs1⟩ a hf
 have hs : St [] W w [] := hs.ext hs1.below
 clear hs1
 refine wpO_nil ?_
 refine wpL_cond hf rfl (fun hb3 => ?_) (fun hb3 => ?_)
 ·have hm := bif_t hm hb3
  refine wpL_seq <| wpL_region ?_
  refine sY hf hs rfl rfl rfl (Y_assign rfl rfl) ?_; clear hf; intro a hf
  refine wpO_nil ?_
  obtain rfl := Option.some.inj hm
  refine wpL_ret (ret_tmp rfl hf rfl ?_)
  exact ⟨_, rfl, rfl, hs⟩
 ·have hm := bif_f hm hb3
  refine wpL_skip <| wpL_seq <| wpL_region ?_
  refine sY hf hs rfl rfl rfl (Y_move rfl rfl) ?_; clear hf; intro a hf
  obtain ⟨r4, hc5, hm⟩ := bind_some hm
  refine sCall hf rfl rfl rfl rfl (cap := []) rfl rfl en50 (spec_DrawLatestTimetable_ok F p0 ao p0.length aq rfl _ _ hc5 (aV.at hs)) ?_; clear hf
  rintro _ w ⟨A6, n7, c8, A10, n11, c12, rfl, hn9, hn13, hs1⟩ a hf
  have hs : St [] W w [.row A6 n7 c8 64 4 ((recs GPlace.cells) r4.1.Places), .row A10 n11 c12 2 1 (ints r4.2.2)] := hs.join hs1
  clear hs1
  refine sY hf hs rfl rfl rfl (Y_move rfl rfl) ?_; clear hf; intro a hf
  refine sY hf hs rfl rfl rfl (Y_extract rfl rfl rfl) ?_; clear hf; intro a hf
  refine sY hf hs rfl rfl rfl (Y_extract rfl rfl rfl) ?_; clear hf; intro a hf
  refine sY hf hs rfl rfl rfl (Y_extract rfl rfl rfl) ?_; clear hf; intro a hf
  refine sAlloc hf hs rfl rfl rfl rfl ti55 ?_; clear hf hs; intro a w b14 hs hf
  have hs : St [] W w [.row A6 n7 c8 64 4 ((recs GPlace.cells) r4.1.Places), .row A10 n11 c12 2 1 (ints r4.2.2), .blk b14 55 [.int .i64 0, .slice none 0 0]] := hs
  refine sStore (i := 2) (us := [.int .i64 r4.1.Events, .slice A6 n7 c8]) hf hs rfl rfl rfl rfl rfl rfl ti55 rfl rfl rfl (Nat.le_of_ble_eq_true rfl) rfl ?_; clear hs; intro w hs
  have hs : St [] W w [.row A6 n7 c8 64 4 ((recs GPlace.cells) r4.1.Places), .row A10 n11 c12 2 1 (ints r4.2.2), .blk b14 55 [.int .i64 r4.1.Events, .slice A6 n7 c8]] := hs
  refine sY hf hs rfl rfl rfl (Y_assign rfl rfl) ?_; clear hf; intro a hf
  refine sY hf hs rfl rfl rfl (Y_assign rfl rfl) ?_; clear hf; intro a hf
  refine wpO_nil <| wpL_seq <| wpL_region ?_
  refine sY hf hs rfl rfl rfl (Y_load_blkS rfl rfl (i := 2) rfl ag55 ti55 rfl) ?_; clear hf; intro a hf
  refine sY hf hs rfl rfl rfl (Y_move rfl rfl) ?_; clear hf; intro a hf
  refine sY hf hs rfl rfl rfl (Y_move rfl rfl) ?_; clear hf; intro a hf
  obtain ⟨r15, hc16, hm⟩ := bind_some hm
  refine sCall hf rfl rfl rfl rfl (cap := []) rfl rfl en51 (impl_LatestTimetable_ok F (GEventGraph.mk r4.1.Events r4.1.Places) A6 n7 c8 hn9 r4.2.1 r4.2.2 A10 n11 c12 hn13 _ _ hc16 (hs.rd (i := 0) rfl) (hs.rd (i := 1) rfl)) ?_; clear hf
  rintro _ w ⟨A17, n18, c19, rfl, hn20, hs1⟩ a hf
  have hs : St [] W w [.row A6 n7 c8 64 4 ((recs GPlace.cells) r4.1.Places), .row A10 n11 c12 2 1 (ints r4.2.2), .blk b14 55 [.int .i64 r4.1.Events, .slice A6 n7 c8], .row A17 n18 c19 2 1 (ints r15.1.Starts)] := hs.join hs1
  clear hs1
  refine sY hf hs rfl rfl rfl (Y_move rfl rfl) ?_; clear hf; intro a hf
  refine sY hf hs rfl rfl rfl (Y_extract rfl rfl rfl) ?_; clear hf; intro a hf
  refine sY hf hs rfl rfl rfl (Y_extract rfl rfl rfl) ?_; clear hf; intro a hf
  refine sAlloc hf hs rfl rfl rfl rfl ti66 ?_; clear hf hs; intro a w b21 hs hf
  have hs : St [] W w [.row A6 n7 c8 64 4 ((recs GPlace.cells) r4.1.Places), .row A10 n11 c12 2 1 (ints r4.2.2), .blk b14 55 [.int .i64 r4.1.Events, .slice A6 n7 c8], .row A17 n18 c19 2 1 (ints r15.1.Starts), .blk b21 66 [.int .i64 0, .slice none 0 0]] := hs
  refine sStore (i := 4) (us := [.int .i64 r15.1.Period, .slice A17 n18 c19]) hf hs rfl rfl rfl rfl rfl rfl ti66 rfl rfl rfl (Nat.le_of_ble_eq_true rfl) rfl ?_; clear hs; intro w hs
  have hs : St [] W w [.row A6 n7 c8 64 4 ((recs GPlace.cells) r4.1.Places), .row A10 n11 c12 2 1 (ints r4.2.2), .blk b14 55 [.int .i64 r4.1.Events, .slice A6 n7 c8], .row A17 n18 c19 2 1 (ints r15.1.Starts), .blk b21 66 [.int .i64 r15.1.Period, .slice A17 n18 c19]] := hs
  refine sY hf hs rfl rfl rfl (Y_assign rfl rfl) ?_; clear hf; intro a hf
  refine wpO_nil <| wpL_seq <| wpL_region ?_
  refine sY hf hs rfl rfl rfl (Y_load_blkS rfl rfl (i := 2) rfl ag55 ti55 rfl) ?_; clear hf; intro a hf
  refine sY hf hs rfl rfl rfl (Y_move rfl rfl) ?_; clear hf; intro a hf
  refine sY hf hs rfl rfl rfl (Y_move rfl rfl) ?_; clear hf; intro a hf
  obtain ⟨r22, hc23, hm⟩ := bind_some hm
  refine sCall hf rfl rfl rfl rfl (cap := []) rfl rfl en52 (spec_LatestTimetable_ok F (GEventGraph.mk r4.1.Events r4.1.Places) A6 n7 c8 hn9 r4.2.1 r4.2.2 A10 n11 c12 hn13 _ _ hc23 (hs.rd (i := 0) rfl) (hs.rd (i := 1) rfl)) ?_; clear hf
  rintro _ w ⟨A24, n25, c26, rfl, hn27, hs1⟩ a hf
  have hs : St [] W w [.row A6 n7 c8 64 4 ((recs GPlace.cells) r4.1.Places), .row A10 n11 c12 2 1 (ints r4.2.2), .blk b14 55 [.int .i64 r4.1.Events, .slice A6 n7 c8], .row A17 n18 c19 2 1 (ints r15.1.Starts), .blk b21 66 [.int .i64 r15.1.Period, .slice A17 n18 c19], .row A24 n25 c26 2 1 (ints r22.1.Starts)] := hs.join hs1
  clear hs1
  refine sY hf hs rfl rfl rfl (Y_move rfl rfl) ?_; clear hf; intro a hf
  refine sY hf hs rfl rfl rfl (Y_extract rfl rfl rfl) ?_; clear hf; intro a hf
  refine sY hf hs rfl rfl rfl (Y_extract rfl rfl rfl) ?_; clear hf; intro a hf
  refine sAlloc hf hs rfl rfl rfl rfl ti66 ?_; clear hf hs; intro a w b28 hs hf
  have hs : St [] W w [.row A6 n7 c8 64 4 ((recs GPlace.cells) r4.1.Places), .row A10 n11 c12 2 1 (ints r4.2.2), .blk b14 55 [.int .i64 r4.1.Events, .slice A6 n7 c8], .row A17 n18 c19 2 1 (ints r15.1.Starts), .blk b21 66 [.int .i64 r15.1.Period, .slice A17 n18 c19], .row A24 n25 c26 2 1 (ints r22.1.Starts), .blk b28 66 [.int .i64 0, .slice none 0 0]] := hs
  refine sStore (i := 6) (us := [.int .i64 r22.1.Period, .slice A24 n25 c26]) hf hs rfl rfl rfl rfl rfl rfl ti66 rfl rfl rfl (Nat.le_of_ble_eq_true rfl) rfl ?_; clear hs; intro w hs
  have hs : St [] W w [.row A6 n7 c8 64 4 ((recs GPlace.cells) r4.1.Places), .row A10 n11 c12 2 1 (ints r4.2.2), .blk b14 55 [.int .i64 r4.1.Events, .slice A6 n7 c8], .row A17 n18 c19 2 1 (ints r15.1.Starts), .blk b21 66 [.int .i64 r15.1.Period, .slice A17 n18 c19], .row A24 n25 c26 2 1 (ints r22.1.Starts), .blk b28 66 [.int .i64 r22.1.Period, .slice A24 n25 c26]] := hs
  refine sY hf hs rfl rfl rfl (Y_assign rfl rfl) ?_; clear hf; intro a hf
  refine wpO_nil <| wpL_seq <| wpL_seq ?_
  obtain ⟨r33, hj34, hm⟩ := bind_some hm
  refine wpL_cut (fun a w => ∃ b32 : Bool, b32 = r33 ∧ Fr a 148 [(3, .pointer (some ⟨b14, 0, none⟩)), (4, .int .i64 r4.2.1), (5, .slice A10 n11 c12), (6, .pointer (some ⟨b21, 0, none⟩)), (7, .int .i64 r15.2), (48, .bool b32)] ∧ St [] W w [.blk b14 55 [.int .i64 r4.1.Events, .slice A6 n7 c8], .row A6 n7 c8 64 4 ((recs GPlace.cells) r4.1.Places), .row A10 n11 c12 2 1 (ints r4.2.2), .blk b21 66 [.int .i64 r15.1.Period, .slice A17 n18 c19], .row A17 n18 c19 2 1 (ints r15.1.Starts)]) ?_ ?_
  ·refine wpL_region ?_
   refine sY hf hs rfl rfl rfl (Y_move rfl rfl) ?_; clear hf; intro a hf
   refine sY hf hs rfl rfl rfl (Y_move rfl rfl) ?_; clear hf; intro a hf
   refine sY hf hs rfl rfl rfl (Y_neq rfl rfl rfl) ?_; clear hf; intro a hf
   refine sY hf hs rfl rfl rfl (Y_move rfl rfl) ?_; clear hf; intro a hf
   refine bsplit (r15.2 != r22.2) (fun hb35 => ?_) (fun hb35 => ?_)
   ·have hj34 := bif_t hj34 hb35
    refine sNo hf rfl rfl rfl (congrArg (fun b => some (Value.bool b)) hb35) rfl rfl rfl ?_; clear hf; intro a hf
    refine sNo hf rfl rfl rfl (congrArg (fun b => some (Value.bool b)) hb35) rfl rfl rfl ?_; clear hf; intro a hf
    refine sNo hf rfl rfl rfl (congrArg (fun b => some (Value.bool b)) hb35) rfl rfl rfl ?_; clear hf; intro a hf
    refine sNo hf rfl rfl rfl (congrArg (fun b => some (Value.bool b)) hb35) rfl rfl rfl ?_; clear hf; intro a hf
    refine sY hf hs rfl rfl rfl (Y_pickT rfl (congrArg (fun b => some (Value.bool b)) hb35) rfl) ?_; clear hf; intro a hf
    refine wpO_nil ?_
    refine wpL_nil (then_normal ?_)
    exact ⟨true, Option.some.inj hj34, (FrD.pick (FrD.pick (FrD.pick (FrD.pick (FrD.pick (FrD.pick hf.none hf rfl) hf rfl) hf rfl) hf rfl) hf rfl) hf rfl), hs.sel [2, 0, 1, 4, 3] (by decide)⟩
   ·have hj34 := bif_f hj34 hb35
    refine sYg hf hs rfl rfl rfl (congrArg (fun b => some (Value.bool b)) hb35) rfl rfl rfl (Y_load_blkS rfl rfl (i := 4) rfl ag66 ti66 rfl) ?_; clear hf; intro a hf
    refine sYg hf hs rfl rfl rfl (congrArg (fun b => some (Value.bool b)) hb35) rfl rfl rfl (Y_load_blkS rfl rfl (i := 6) rfl ag66 ti66 rfl) ?_; clear hf; intro a hf
    obtain ⟨r36, hc37, hj34⟩ := bind_some hj34
    refine sCallg hf rfl rfl rfl (congrArg (fun b => some (Value.bool b)) hb35) rfl rfl rfl rfl (cap := []) rfl rfl en53 (laws_likeTimetables9_ok F (GTimetable.mk r15.1.Period r15.1.Starts) A17 n18 c19 hn20 (GTimetable.mk r22.1.Period r22.1.Starts) A24 n25 c26 hn27 _ _ hc37 (hs.rd (i := 3) rfl) (hs.rd (i := 5) rfl)) ?_; clear hf
    rintro _ w ⟨rfl, hs1⟩ a hf
    have hs : St [] W w [.row A6 n7 c8 64 4 ((recs GPlace.cells) r4.1.Places), .row A10 n11 c12 2 1 (ints r4.2.2), .blk b14 55 [.int .i64 r4.1.Events, .slice A6 n7 c8], .row A17 n18 c19 2 1 (ints r15.1.Starts), .blk b21 66 [.int .i64 r15.1.Period, .slice A17 n18 c19], .row A24 n25 c26 2 1 (ints r22.1.Starts), .blk b28 66 [.int .i64 r22.1.Period, .slice A24 n25 c26]] := hs.ext hs1.below
    clear hs1
    refine sYg hf hs rfl rfl rfl (congrArg (fun b => some (Value.bool b)) hb35) rfl rfl rfl (Y_not rfl rfl) ?_; clear hf; intro a hf
    refine sY hf hs rfl rfl rfl (Y_pickF rfl (congrArg (fun b => some (Value.bool b)) hb35) rfl) ?_; clear hf; intro a hf
    refine wpO_nil ?_
    refine wpL_nil (then_normal ?_)
    exact ⟨(!r36), Option.some.inj hj34, (FrD.pick (FrD.pick (FrD.pick (FrD.pick (FrD.pick (FrD.pick hf.none hf rfl) hf rfl) hf rfl) hf rfl) hf rfl) hf rfl), hs.sel [2, 0, 1, 4, 3] (by decide)⟩
  ·rintro a w ⟨b32, hr_, hf, hs⟩
   subst hr_
   try dsimp only at hm
   refine wpL_cond hf rfl (fun hb38 => ?_) (fun hb38 => ?_)
   ·have hm := bif_t hm hb38
    refine wpL_seq <| wpL_region ?_
    refine sY hf hs rfl rfl rfl (Y_assign rfl rfl) ?_; clear hf; intro a hf
    refine wpO_nil ?_
    obtain rfl := Option.some.inj hm
    refine wpL_ret (ret_tmp rfl hf rfl ?_)
    exact ⟨_, rfl, rfl, hs.sel [] (by decide)⟩
   ·have hm := bif_f hm hb38
    refine wpL_skip <| wpL_seq <| wpL_seq <| wpL_region ?_
    refine sY hf hs rfl rfl rfl (Y_move rfl rfl) ?_; clear hf; intro a hf
    refine sY hf hs rfl rfl rfl (Y_neq rfl rfl rfl) ?_; clear hf; intro a hf
    refine wpO_nil ?_
    refine wpL_cond hf rfl (fun hb39 => ?_) (fun hb39 => ?_)
    ·have hm := bif_t hm hb39
     refine wpL_seq <| wpL_region ?_
     refine sY hf hs rfl rfl rfl (Y_assign rfl rfl) ?_; clear hf; intro a hf
     refine wpO_nil ?_
     obtain rfl := Option.some.inj hm
     refine wpL_ret (ret_tmp rfl hf rfl ?_)
     exact ⟨_, rfl, rfl, hs.sel [] (by decide)⟩
    ·have hm := bif_f hm hb39
     refine wpL_skip <| wpL_seq <| wpL_region ?_
     refine sY hf hs rfl rfl rfl (Y_load_blkS rfl rfl (i := 0) rfl ag55 ti55 rfl) ?_; clear hf; intro a hf
     refine sY hf hs rfl rfl rfl (Y_load_blkS rfl rfl (i := 3) rfl ag66 ti66 rfl) ?_; clear hf; intro a hf
     obtain ⟨r40, hc41, hm⟩ := bind_some hm
     refine sCall hf rfl rfl rfl rfl (cap := []) rfl rfl en54 (impl_IsKept_ok F (GEventGraph.mk r4.1.Events r4.1.Places) A6 n7 c8 hn9 (GTimetable.mk r15.1.Period r15.1.Starts) A17 n18 c19 hn20 _ _ hc41 (hs.rd (i := 1) rfl) (hs.rd (i := 4) rfl)) ?_; clear hf
     rintro _ w ⟨rfl, hs1⟩ a hf
     have hs : St [] W w [.blk b14 55 [.int .i64 r4.1.Events, .slice A6 n7 c8], .row A6 n7 c8 64 4 ((recs GPlace.cells) r4.1.Places), .row A10 n11 c12 2 1 (ints r4.2.2), .blk b21 66 [.int .i64 r15.1.Period, .slice A17 n18 c19], .row A17 n18 c19 2 1 (ints r15.1.Starts)] := hs.ext hs1.below
     clear hs1
     refine sY hf hs rfl rfl rfl (Y_move rfl rfl) ?_; clear hf; intro a hf
     refine sY hf hs rfl rfl rfl (Y_extract rfl rfl rfl) ?_; clear hf; intro a hf
     refine sY hf hs rfl rfl rfl (Y_extract rfl rfl rfl) ?_; clear hf; intro a hf
     refine sY hf hs rfl rfl rfl (Y_assign rfl rfl) ?_; clear hf; intro a hf
     refine sY hf hs rfl rfl rfl (Y_assign rfl rfl) ?_; clear hf; intro a hf
     refine wpO_nil <| wpL_seq <| wpL_region ?_
     refine sY hf hs rfl rfl rfl (Y_load_blkS rfl rfl (i := 0) rfl ag55 ti55 rfl) ?_; clear hf; intro a hf
     refine sY hf hs rfl rfl rfl (Y_move rfl rfl) ?_; clear hf; intro a hf
     obtain ⟨r42, hc43, hm⟩ := bind_some hm
     refine sCall hf rfl rfl rfl rfl (cap := []) rfl rfl en55 (impl_EarliestTimetable_ok F (GEventGraph.mk r4.1.Events r4.1.Places) A6 n7 c8 hn9 r4.2.1 _ _ hc43 (hs.rd (i := 1) rfl)) ?_; clear hf
     rintro _ w ⟨A44, n45, c46, rfl, hn47, hs1⟩ a hf
     have hs : St [] W w [.blk b14 55 [.int .i64 r4.1.Events, .slice A6 n7 c8], .row A6 n7 c8 64 4 ((recs GPlace.cells) r4.1.Places), .row A10 n11 c12 2 1 (ints r4.2.2), .blk b21 66 [.int .i64 r15.1.Period, .slice A17 n18 c19], .row A17 n18 c19 2 1 (ints r15.1.Starts), .row A44 n45 c46 2 1 (ints r42.1.Starts)] := hs.join hs1
     clear hs1
     refine sY hf hs rfl rfl rfl (Y_move rfl rfl) ?_; clear hf; intro a hf
     refine sY hf hs rfl rfl rfl (Y_extract rfl rfl rfl) ?_; clear hf; intro a hf
     refine sY hf hs rfl rfl rfl (Y_extract rfl rfl rfl) ?_; clear hf; intro a hf
     refine sAlloc hf hs rfl rfl rfl rfl ti66 ?_; clear hf hs; intro a w b48 hs hf
     have hs : St [] W w [.blk b14 55 [.int .i64 r4.1.Events, .slice A6 n7 c8], .row A6 n7 c8 64 4 ((recs GPlace.cells) r4.1.Places), .row A10 n11 c12 2 1 (ints r4.2.2), .blk b21 66 [.int .i64 r15.1.Period, .slice A17 n18 c19], .row A17 n18 c19 2 1 (ints r15.1.Starts), .row A44 n45 c46 2 1 (ints r42.1.Starts), .blk b48 66 [.int .i64 0, .slice none 0 0]] := hs
     refine sStore (i := 6) (us := [.int .i64 r42.1.Period, .slice A44 n45 c46]) hf hs rfl rfl rfl rfl rfl rfl ti66 rfl rfl rfl (Nat.le_of_ble_eq_true rfl) rfl ?_; clear hs; intro w hs
     have hs : St [] W w [.blk b14 55 [.int .i64 r4.1.Events, .slice A6 n7 c8], .row A6 n7 c8 64 4 ((recs GPlace.cells) r4.1.Places), .row A10 n11 c12 2 1 (ints r4.2.2), .blk b21 66 [.int .i64 r15.1.Period, .slice A17 n18 c19], .row A17 n18 c19 2 1 (ints r15.1.Starts), .row A44 n45 c46 2 1 (ints r42.1.Starts), .blk b48 66 [.int .i64 r42.1.Period, .slice A44 n45 c46]] := hs
     refine sY hf hs rfl rfl rfl (Y_assign rfl rfl) ?_; clear hf; intro a hf
     refine wpO_nil <| wpL_seq <| wpL_seq ?_
     obtain ⟨r58, hj59, hm⟩ := bind_some hm
     refine wpL_cut (fun a w => ∃ b57 : Bool, b57 = r58 ∧ Fr a 148 [(3, .pointer (some ⟨b14, 0, none⟩)), (4, .int .i64 r4.2.1), (5, .slice A10 n11 c12), (6, .pointer (some ⟨b21, 0, none⟩)), (87, .bool b57)] ∧ St [] W w [.blk b14 55 [.int .i64 r4.1.Events, .slice A6 n7 c8], .row A6 n7 c8 64 4 ((recs GPlace.cells) r4.1.Places), .row A10 n11 c12 2 1 (ints r4.2.2), .blk b21 66 [.int .i64 r15.1.Period, .slice A17 n18 c19], .row A17 n18 c19 2 1 (ints r15.1.Starts)]) ?_ ?_
     ·refine wpL_region ?_
      refine sY hf hs rfl rfl rfl (Y_move rfl rfl) ?_; clear hf; intro a hf
      refine sY hf hs rfl rfl rfl (Y_neq rfl rfl rfl) ?_; clear hf; intro a hf
      refine sY hf hs rfl rfl rfl (Y_move rfl rfl) ?_; clear hf; intro a hf
      refine bsplit (r40.2 != 0) (fun hb60 => ?_) (fun hb60 => ?_)
      ·have hj59 := bif_t hj59 hb60
       refine sNo hf rfl rfl rfl (congrArg (fun b => some (Value.bool b)) hb60) rfl rfl rfl ?_; clear hf; intro a hf
       refine sNo hf rfl rfl rfl (congrArg (fun b => some (Value.bool b)) hb60) rfl rfl rfl ?_; clear hf; intro a hf
       refine sY hf hs rfl rfl rfl (Y_pickT rfl (congrArg (fun b => some (Value.bool b)) hb60) rfl) ?_; clear hf; intro a hf
       refine sY hf hs rfl rfl rfl (Y_move rfl rfl) ?_; clear hf; intro a hf
       refine sNo hf rfl rfl rfl rfl rfl rfl rfl ?_; clear hf; intro a hf
       refine sNo hf rfl rfl rfl rfl rfl rfl rfl ?_; clear hf; intro a hf
       refine sY hf hs rfl rfl rfl (Y_pickT rfl rfl rfl) ?_; clear hf; intro a hf
       refine sY hf hs rfl rfl rfl (Y_move rfl rfl) ?_; clear hf; intro a hf
       refine sNo hf rfl rfl rfl rfl rfl rfl rfl ?_; clear hf; intro a hf
       refine sNo hf rfl rfl rfl rfl rfl rfl rfl ?_; clear hf; intro a hf
       refine sNo hf rfl rfl rfl rfl rfl rfl rfl ?_; clear hf; intro a hf
       refine sNo hf rfl rfl rfl rfl rfl rfl rfl ?_; clear hf; intro a hf
       refine sNo hf rfl rfl rfl rfl rfl rfl rfl ?_; clear hf; intro a hf
       refine sY hf hs rfl rfl rfl (Y_pickT rfl rfl rfl) ?_; clear hf; intro a hf
       refine sY hf hs rfl rfl rfl (Y_move rfl rfl) ?_; clear hf; intro a hf
       refine sNo hf rfl rfl rfl rfl rfl rfl rfl ?_; clear hf; intro a hf
       refine sNo hf rfl rfl rfl rfl rfl rfl rfl ?_; clear hf; intro a hf
       refine sNo hf rfl rfl rfl rfl rfl rfl rfl ?_; clear hf; intro a hf
       refine sNo hf rfl rfl rfl rfl rfl rfl rfl ?_; clear hf; intro a hf
       refine sNo hf rfl rfl rfl rfl rfl rfl rfl ?_; clear hf; intro a hf
       refine sNo hf rfl rfl rfl rfl rfl rfl rfl ?_; clear hf; intro a hf
       refine sY hf hs rfl rfl rfl (Y_pickT rfl rfl rfl) ?_; clear hf; intro a hf
       refine wpO_nil ?_
       refine wpL_nil (then_normal ?_)
       exact ⟨true, Option.some.inj hj59, (FrD.pick (FrD.pick (FrD.pick (FrD.pick (FrD.pick hf.none hf rfl) hf rfl) hf rfl) hf rfl) hf rfl), hs.sel [0, 1, 2, 3, 4] (by decide)⟩
      ·have hj59 := bif_f hj59 hb60
       refine sYg hf hs rfl rfl rfl (congrArg (fun b => some (Value.bool b)) hb60) rfl rfl rfl (Y_move rfl rfl) ?_; clear hf; intro a hf
       refine sYg hf hs rfl rfl rfl (congrArg (fun b => some (Value.bool b)) hb60) rfl rfl rfl (Y_not rfl rfl) ?_; clear hf; intro a hf
       refine sY hf hs rfl rfl rfl (Y_pickF rfl (congrArg (fun b => some (Value.bool b)) hb60) rfl) ?_; clear hf; intro a hf
       refine sY hf hs rfl rfl rfl (Y_move rfl rfl) ?_; clear hf; intro a hf
       refine bsplit (!r40.1) (fun hb61 => ?_) (fun hb61 => ?_)
       ·have hj59 := bif_t hj59 hb61
        refine sNo hf rfl rfl rfl (congrArg (fun b => some (Value.bool b)) hb61) rfl rfl rfl ?_; clear hf; intro a hf
        refine sNo hf rfl rfl rfl (congrArg (fun b => some (Value.bool b)) hb61) rfl rfl rfl ?_; clear hf; intro a hf
        refine sY hf hs rfl rfl rfl (Y_pickT rfl (congrArg (fun b => some (Value.bool b)) hb61) rfl) ?_; clear hf; intro a hf
        refine sY hf hs rfl rfl rfl (Y_move rfl rfl) ?_; clear hf; intro a hf
        refine sNo hf rfl rfl rfl rfl rfl rfl rfl ?_; clear hf; intro a hf
        refine sNo hf rfl rfl rfl rfl rfl rfl rfl ?_; clear hf; intro a hf
        refine sNo hf rfl rfl rfl rfl rfl rfl rfl ?_; clear hf; intro a hf
        refine sNo hf rfl rfl rfl rfl rfl rfl rfl ?_; clear hf; intro a hf
        refine sNo hf rfl rfl rfl rfl rfl rfl rfl ?_; clear hf; intro a hf
        refine sY hf hs rfl rfl rfl (Y_pickT rfl rfl rfl) ?_; clear hf; intro a hf
        refine sY hf hs rfl rfl rfl (Y_move rfl rfl) ?_; clear hf; intro a hf
        refine sNo hf rfl rfl rfl rfl rfl rfl rfl ?_; clear hf; intro a hf
        refine sNo hf rfl rfl rfl rfl rfl rfl rfl ?_; clear hf; intro a hf
        refine sNo hf rfl rfl rfl rfl rfl rfl rfl ?_; clear hf; intro a hf
        refine sNo hf rfl rfl rfl rfl rfl rfl rfl ?_; clear hf; intro a hf
        refine sNo hf rfl rfl rfl rfl rfl rfl rfl ?_; clear hf; intro a hf
        refine sNo hf rfl rfl rfl rfl rfl rfl rfl ?_; clear hf; intro a hf
        refine sY hf hs rfl rfl rfl (Y_pickT rfl rfl rfl) ?_; clear hf; intro a hf
        refine wpO_nil ?_
        refine wpL_nil (then_normal ?_)
        exact ⟨true, Option.some.inj hj59, (FrD.pick (FrD.pick (FrD.pick (FrD.pick (FrD.pick hf.none hf rfl) hf rfl) hf rfl) hf rfl) hf rfl), hs.sel [0, 1, 2, 3, 4] (by decide)⟩
       ·have hj59 := bif_f hj59 hb61
        refine sYg hf hs rfl rfl rfl (congrArg (fun b => some (Value.bool b)) hb61) rfl rfl rfl (Y_move rfl rfl) ?_; clear hf; intro a hf
        refine sYg hf hs rfl rfl rfl (congrArg (fun b => some (Value.bool b)) hb61) rfl rfl rfl (Y_neq rfl rfl rfl) ?_; clear hf; intro a hf
        refine sY hf hs rfl rfl rfl (Y_pickF rfl (congrArg (fun b => some (Value.bool b)) hb61) rfl) ?_; clear hf; intro a hf
        refine sY hf hs rfl rfl rfl (Y_move rfl rfl) ?_; clear hf; intro a hf
        refine bsplit (r42.2 != 0) (fun hb62 => ?_) (fun hb62 => ?_)
        ·have hj59 := bif_t hj59 hb62
         refine sNo hf rfl rfl rfl (congrArg (fun b => some (Value.bool b)) hb62) rfl rfl rfl ?_; clear hf; intro a hf
         refine sNo hf rfl rfl rfl (congrArg (fun b => some (Value.bool b)) hb62) rfl rfl rfl ?_; clear hf; intro a hf
         refine sNo hf rfl rfl rfl (congrArg (fun b => some (Value.bool b)) hb62) rfl rfl rfl ?_; clear hf; intro a hf
         refine sNo hf rfl rfl rfl (congrArg (fun b => some (Value.bool b)) hb62) rfl rfl rfl ?_; clear hf; intro a hf
         refine sNo hf rfl rfl rfl (congrArg (fun b => some (Value.bool b)) hb62) rfl rfl rfl ?_; clear hf; intro a hf
         refine sY hf hs rfl rfl rfl (Y_pickT rfl (congrArg (fun b => some (Value.bool b)) hb62) rfl) ?_; clear hf; intro a hf
         refine sY hf hs rfl rfl rfl (Y_move rfl rfl) ?_; clear hf; intro a hf
         refine sNo hf rfl rfl rfl rfl rfl rfl rfl ?_; clear hf; intro a hf
         refine sNo hf rfl rfl rfl rfl rfl rfl rfl ?_; clear hf; intro a hf
         refine sNo hf rfl rfl rfl rfl rfl rfl rfl ?_; clear hf; intro a hf
         refine sNo hf rfl rfl rfl rfl rfl rfl rfl ?_; clear hf; intro a hf
         refine sNo hf rfl rfl rfl rfl rfl rfl rfl ?_; clear hf; intro a hf
         refine sNo hf rfl rfl rfl rfl rfl rfl rfl ?_; clear hf; intro a hf
         refine sY hf hs rfl rfl rfl (Y_pickT rfl rfl rfl) ?_; clear hf; intro a hf
         refine wpO_nil ?_
         refine wpL_nil (then_normal ?_)
         exact ⟨true, Option.some.inj hj59, (FrD.pick (FrD.pick (FrD.pick (FrD.pick (FrD.pick hf.none hf rfl) hf rfl) hf rfl) hf rfl) hf rfl), hs.sel [0, 1, 2, 3, 4] (by decide)⟩
        ·have hj59 := bif_f hj59 hb62
         refine sYg hf hs rfl rfl rfl (congrArg (fun b => some (Value.bool b)) hb62) rfl rfl rfl (Y_fieldAddr rfl rfl fo66_1) ?_; clear hf; intro a hf
         refine sYg hf hs rfl rfl rfl (congrArg (fun b => some (Value.bool b)) hb62) rfl rfl rfl (Y_load_blk rfl rfl (i := 3) rfl rfl ag28) ?_; clear hf; intro a hf
         refine sYg hf hs rfl rfl rfl (congrArg (fun b => some (Value.bool b)) hb62) rfl rfl rfl (Y_move rfl rfl) ?_; clear hf; intro a hf
         obtain ⟨r63, hc64, hj59⟩ := bind_some hj59
         refine sCallg hf rfl rfl rfl (congrArg (fun b => some (Value.bool b)) hb62) rfl rfl rfl rfl (cap := []) rfl rfl en23 (laws_below9_ok F r15.1.Starts A17 n18 c19 hn20 r4.2.2 A10 n11 c12 hn13 _ _ hc64 (hs.rd (i := 4) rfl) (hs.rd (i := 2) rfl)) ?_; clear hf
         rintro _ w ⟨rfl, hs1⟩ a hf
         have hs : St [] W w [.blk b14 55 [.int .i64 r4.1.Events, .slice A6 n7 c8], .row A6 n7 c8 64 4 ((recs GPlace.cells) r4.1.Places), .row A10 n11 c12 2 1 (ints r4.2.2), .blk b21 66 [.int .i64 r15.1.Period, .slice A17 n18 c19], .row A17 n18 c19 2 1 (ints r15.1.Starts), .row A44 n45 c46 2 1 (ints r42.1.Starts), .blk b48 66 [.int .i64 r42.1.Period, .slice A44 n45 c46]] := hs.ext hs1.below
         clear hs1
         refine sYg hf hs rfl rfl rfl (congrArg (fun b => some (Value.bool b)) hb62) rfl rfl rfl (Y_not rfl rfl) ?_; clear hf; intro a hf
         refine sY hf hs rfl rfl rfl (Y_pickF rfl (congrArg (fun b => some (Value.bool b)) hb62) rfl) ?_; clear hf; intro a hf
         refine sY hf hs rfl rfl rfl (Y_move rfl rfl) ?_; clear hf; intro a hf
         refine bsplit (!r63) (fun hb65 => ?_) (fun hb65 => ?_)
         ·have hj59 := bif_t hj59 hb65
          refine sNo hf rfl rfl rfl (congrArg (fun b => some (Value.bool b)) hb65) rfl rfl rfl ?_; clear hf; intro a hf
          refine sNo hf rfl rfl rfl (congrArg (fun b => some (Value.bool b)) hb65) rfl rfl rfl ?_; clear hf; intro a hf
          refine sNo hf rfl rfl rfl (congrArg (fun b => some (Value.bool b)) hb65) rfl rfl rfl ?_; clear hf; intro a hf
          refine sNo hf rfl rfl rfl (congrArg (fun b => some (Value.bool b)) hb65) rfl rfl rfl ?_; clear hf; intro a hf
          refine sNo hf rfl rfl rfl (congrArg (fun b => some (Value.bool b)) hb65) rfl rfl rfl ?_; clear hf; intro a hf
          refine sNo hf rfl rfl rfl (congrArg (fun b => some (Value.bool b)) hb65) rfl rfl rfl ?_; clear hf; intro a hf
          refine sY hf hs rfl rfl rfl (Y_pickT rfl (congrArg (fun b => some (Value.bool b)) hb65) rfl) ?_; clear hf; intro a hf
          refine wpO_nil ?_
          refine wpL_nil (then_normal ?_)
          exact ⟨true, Option.some.inj hj59, (FrD.pick (FrD.pick (FrD.pick (FrD.pick (FrD.pick hf.none hf rfl) hf rfl) hf rfl) hf rfl) hf rfl), hs.sel [0, 1, 2, 3, 4] (by decide)⟩
         ·have hj59 := bif_f hj59 hb65
          refine sYg hf hs rfl rfl rfl (congrArg (fun b => some (Value.bool b)) hb65) rfl rfl rfl (Y_fieldAddr rfl rfl fo66_1) ?_; clear hf; intro a hf
          refine sYg hf hs rfl rfl rfl (congrArg (fun b => some (Value.bool b)) hb65) rfl rfl rfl (Y_load_blk rfl rfl (i := 6) rfl rfl ag28) ?_; clear hf; intro a hf
          refine sYg hf hs rfl rfl rfl (congrArg (fun b => some (Value.bool b)) hb65) rfl rfl rfl (Y_fieldAddr rfl rfl fo66_1) ?_; clear hf; intro a hf
          refine sYg hf hs rfl rfl rfl (congrArg (fun b => some (Value.bool b)) hb65) rfl rfl rfl (Y_load_blk rfl rfl (i := 3) rfl rfl ag28) ?_; clear hf; intro a hf
          obtain ⟨r66, hc67, hj59⟩ := bind_some hj59
          refine sCallg hf rfl rfl rfl (congrArg (fun b => some (Value.bool b)) hb65) rfl rfl rfl rfl (cap := []) rfl rfl en23 (laws_below9_ok F r42.1.Starts A44 n45 c46 hn47 r15.1.Starts A17 n18 c19 hn20 _ _ hc67 (hs.rd (i := 5) rfl) (hs.rd (i := 4) rfl)) ?_; clear hf
          rintro _ w ⟨rfl, hs1⟩ a hf
          have hs : St [] W w [.blk b14 55 [.int .i64 r4.1.Events, .slice A6 n7 c8], .row A6 n7 c8 64 4 ((recs GPlace.cells) r4.1.Places), .row A10 n11 c12 2 1 (ints r4.2.2), .blk b21 66 [.int .i64 r15.1.Period, .slice A17 n18 c19], .row A17 n18 c19 2 1 (ints r15.1.Starts), .row A44 n45 c46 2 1 (ints r42.1.Starts), .blk b48 66 [.int .i64 r42.1.Period, .slice A44 n45 c46]] := hs.ext hs1.below
          clear hs1
          refine sYg hf hs rfl rfl rfl (congrArg (fun b => some (Value.bool b)) hb65) rfl rfl rfl (Y_not rfl rfl) ?_; clear hf; intro a hf
          refine sY hf hs rfl rfl rfl (Y_pickF rfl (congrArg (fun b => some (Value.bool b)) hb65) rfl) ?_; clear hf; intro a hf
          refine wpO_nil ?_
          refine wpL_nil (then_normal ?_)
          exact ⟨(!r66), Option.some.inj hj59, (FrD.pick (FrD.pick (FrD.pick (FrD.pick (FrD.pick hf.none hf rfl) hf rfl) hf rfl) hf rfl) hf rfl), hs.sel [0, 1, 2, 3, 4] (by decide)⟩
     ·rintro a w ⟨b57, hr_, hf, hs⟩
      subst hr_
      try dsimp only at hm
      refine wpL_cond hf rfl (fun hb68 => ?_) (fun hb68 => ?_)
      ·have hm := bif_t hm hb68
       refine wpL_seq <| wpL_region ?_
       refine sY hf hs rfl rfl rfl (Y_assign rfl rfl) ?_; clear hf; intro a hf
       refine wpO_nil ?_
       obtain rfl := Option.some.inj hm
       refine wpL_ret (ret_tmp rfl hf rfl ?_)
       exact ⟨_, rfl, rfl, hs.sel [] (by decide)⟩
      ·have hm := bif_f hm hb68
       refine wpL_skip <| wpL_seq <| wpL_seq <| wpL_region ?_
       refine sY hf hs rfl rfl rfl (Y_assign rfl rfl) ?_; clear hf; intro a hf
       refine wpO_nil ?_
       obtain ⟨r344, hl345, hm⟩ := bind_some hm
       refine wpL_block (fun a w => Sum.inr () = r344 ∧ Fr a 148 [] ∧ St [] W w []) ?_ ?_
       ·refine wpL_loop (fun n a w => ∃ x252 : Int, laws_FnLatestTables_L4 F r4 r15 n x252 = some r344 ∧ Fr a 148 [(3, .pointer (some ⟨b14, 0, none⟩)), (4, .int .i64 r4.2.1), (5, .slice A10 n11 c12), (6, .pointer (some ⟨b21, 0, none⟩)), (14, .int .i64 x252)] ∧ St [] W w [.blk b14 55 [.int .i64 r4.1.Events, .slice A6 n7 c8], .row A6 n7 c8 64 4 ((recs GPlace.cells) r4.1.Places), .row A10 n11 c12 2 1 (ints r4.2.2), .blk b21 66 [.int .i64 r15.1.Period, .slice A17 n18 c19], .row A17 n18 c19 2 1 (ints r15.1.Starts)]) F ?_ ?_ ?_
        ·exact ⟨0, hl345, (FrD.pick (FrD.pick (FrD.pick (FrD.pick (FrD.pick hf.none hf rfl) hf rfl) hf rfl) hf rfl) hf rfl), hs⟩
        ·rintro a w ⟨x252, h0_, -, -⟩; simp [laws_FnLatestTables_L4] at h0_
        ·rintro n347 a w ⟨x252, hm346, hf, hs⟩
         rw [laws_FnLatestTables_L4] at hm346
         refine wpL_seq <| wpL_seq <| wpL_region ?_
         refine sY hf hs rfl rfl rfl (Y_move rfl rfl) ?_; clear hf; intro a hf
         refine sY hf hs rfl rfl rfl (Y_fieldAddr rfl rfl fo55_0) ?_; clear hf; intro a hf
         refine sY hf hs rfl rfl rfl (Y_load_blk rfl rfl (i := 0) rfl rfl ag2) ?_; clear hf; intro a hf
         refine sY hf hs rfl rfl rfl (Y_lss rfl rfl rfl) ?_; clear hf; intro a hf
         refine wpO_nil ?_
         refine wpL_cond hf rfl (fun hb348 => ?_) (fun hb348 => ?_)
         ·have hm346 := bif_t hm346 hb348
          refine wpL_skip <| wpL_seq <| wpL_block0 <| wpL_seq ?_
          refine wpL_draw (by kernel_rfl) (by kernel_rfl) hs ?_
          refine qY hf rfl rfl rfl (Y_fieldAddr rfl rfl fo66_1) ?_; clear hf; intro a hf
          refine qY hf rfl rfl rfl (Y_load_blk rfl rfl (i := 3) rfl rfl ag28) ?_; clear hf; intro a hf
          refine qY hf rfl rfl rfl (Y_move rfl rfl) ?_; clear hf; intro a hf
          obtain ⟨q349, hi350, hm346⟩ := bind_some hm346
          obtain ⟨hi350a, hi350b, hi350q⟩ := idx_some hi350
          refine qY hf rfl rfl rfl (Y_index rfl rfl rfl el28 ti2 (Rd.isAt (hs.rd (i := 4) rfl) (at1 (ints_at hi350q))) hi350a (ltn hn20 hi350b)) ?_; clear hf; intro a hf
          refine qY hf rfl rfl rfl (Y_load_rd rfl rfl (fun w hs => hs.rd (i := 4) rfl) (at1 (ints_at hi350q)) ag2) ?_; clear hf; intro a hf
          refine qY hf rfl rfl rfl (Y_move rfl rfl) ?_; clear hf; intro a hf
          refine qY hf rfl rfl rfl (Y_move rfl rfl) ?_; clear hf; intro a hf
          obtain ⟨q351, hi352, hm346⟩ := bind_some hm346
          obtain ⟨hi352a, hi352b, hi352q⟩ := idx_some hi352
          refine qY hf rfl rfl rfl (Y_index rfl rfl rfl el28 ti2 (Rd.isAt (hs.rd (i := 2) rfl) (at1 (ints_at hi352q))) hi352a (ltn hn13 hi352b)) ?_; clear hf; intro a hf
          refine qY hf rfl rfl rfl (Y_load_rd rfl rfl (fun w hs => hs.rd (i := 2) rfl) (at1 (ints_at hi352q)) ag2) ?_; clear hf; intro a hf
          refine qY hf rfl rfl rfl (Y_eql rfl rfl rfl) ?_; clear hf; intro a hf
          refine qY hf rfl rfl rfl (Y_assign rfl rfl) ?_; clear hf; intro a hf
          refine qNil ?_; clear hs; intro w hs
          refine wpL_seq <| wpL_seq <| wpL_region ?_
          refine sY hf hs rfl rfl rfl (Y_assign rfl rfl) ?_; clear hf; intro a hf
          refine wpO_nil ?_
          obtain ⟨r415, hl416, hm346⟩ := bind_some hm346
          refine wpL_block (fun a w => ∃ b414 : Bool, b414 = r415 ∧ Fr a 148 [(3, .pointer (some ⟨b14, 0, none⟩)), (4, .int .i64 r4.2.1), (5, .slice A10 n11 c12), (6, .pointer (some ⟨b21, 0, none⟩)), (14, .int .i64 x252), (15, .bool b414)] ∧ St [] W w [.blk b14 55 [.int .i64 r4.1.Events, .slice A6 n7 c8], .row A6 n7 c8 64 4 ((recs GPlace.cells) r4.1.Places), .row A10 n11 c12 2 1 (ints r4.2.2), .blk b21 66 [.int .i64 r15.1.Period, .slice A17 n18 c19], .row A17 n18 c19 2 1 (ints r15.1.Starts)]) ?_ ?_
          ·refine wpL_loop (fun n a w => ∃ b393 : Bool, ∃ x394 : Int, laws_FnLatestTables_L5 F r4 r15 x252 n b393 x394 = some r415 ∧ Fr a 148 [(3, .pointer (some ⟨b14, 0, none⟩)), (4, .int .i64 r4.2.1), (5, .slice A10 n11 c12), (6, .pointer (some ⟨b21, 0, none⟩)), (14, .int .i64 x252), (15, .bool b393), (16, .int .i64 x394)] ∧ St [] W w [.blk b14 55 [.int .i64 r4.1.Events, .slice A6 n7 c8], .row A6 n7 c8 64 4 ((recs GPlace.cells) r4.1.Places), .row A10 n11 c12 2 1 (ints r4.2.2), .blk b21 66 [.int .i64 r15.1.Period, .slice A17 n18 c19], .row A17 n18 c19 2 1 (ints r15.1.Starts)]) F ?_ ?_ ?_
           ·exact ⟨(q349 == q351), 0, hl416, (FrD.pick (FrD.pick (FrD.pick (FrD.pick (FrD.pick (FrD.pick (FrD.pick hf.none hf rfl) hf rfl) hf rfl) hf rfl) hf rfl) hf rfl) hf rfl), hs⟩
           ·rintro a w ⟨b393, x394, h0_, -, -⟩; simp [laws_FnLatestTables_L5] at h0_
           ·rintro n418 a w ⟨b393, x394, hm417, hf, hs⟩
            rw [laws_FnLatestTables_L5] at hm417
            refine wpL_seq <| wpL_seq <| wpL_region ?_
            refine sY hf hs rfl rfl rfl (Y_move rfl rfl) ?_; clear hf; intro a hf
            refine sY hf hs rfl rfl rfl (Y_fieldAddr rfl rfl fo55_1) ?_; clear hf; intro a hf
            refine sY hf hs rfl rfl rfl (Y_load_blk rfl rfl (i := 0) rfl rfl ag53) ?_; clear hf; intro a hf
            refine sY hf hs rfl rfl rfl (Y_lenH rfl rfl el53 hn9) ?_; clear hf; intro a hf
            refine sY hf hs rfl rfl rfl (Y_lss rfl rfl rfl) ?_; clear hf; intro a hf
            refine wpO_nil ?_
            refine wpL_cond hf rfl (fun hb419 => ?_) (fun hb419 => ?_)
            ·have hm417 := bif_t hm417 hb419
             refine wpL_skip <| wpL_seq <| wpL_block0 <| wpL_seq <| wpL_region ?_
             refine sY hf hs rfl rfl rfl (Y_fieldAddr rfl rfl fo55_1) ?_; clear hf; intro a hf
             refine sY hf hs rfl rfl rfl (Y_load_blk rfl rfl (i := 0) rfl rfl ag53) ?_; clear hf; intro a hf
             refine sY hf hs rfl rfl rfl (Y_move rfl rfl) ?_; clear hf; intro a hf
             obtain ⟨q420, hi421, hm417⟩ := bind_some hm417
             obtain ⟨hi421a, hi421b, hi421q⟩ := idx_some hi421
             refine sY hf hs rfl rfl rfl (Y_index rfl rfl rfl el53 ti64 (Rd.isAt (hs.rd (i := 1) rfl) (recs_at (s := 4) GPlace.len hi421q (j := 0) rfl)) hi421a (ltn hn9 hi421b)) ?_; clear hf; intro a hf
             refine sY hf hs rfl rfl rfl (Y_load_rdS rfl rfl (us := [.int .i64 q420.From, .int .i64 q420.To, .int .i64 q420.Delay, .int .i64 q420.Tokens]) (fun w hs => hs.rd (i := 1) rfl) (fun j u hj => recs_at (s := 4) GPlace.len hi421q hj) (Nat.succ_pos _) ag64 ti64 rfl) ?_; clear hf; intro a hf
             refine sAlloc hf hs rfl rfl rfl rfl ti64 ?_; clear hf hs; intro a w b422 hs hf
             have hs : St [] W w [.blk b14 55 [.int .i64 r4.1.Events, .slice A6 n7 c8], .row A6 n7 c8 64 4 ((recs GPlace.cells) r4.1.Places), .row A10 n11 c12 2 1 (ints r4.2.2), .blk b21 66 [.int .i64 r15.1.Period, .slice A17 n18 c19], .row A17 n18 c19 2 1 (ints r15.1.Starts), .blk b422 64 [.int .i64 0, .int .i64 0, .int .i64 0, .int .i64 0]] := hs
             refine sStore (i := 5) (us := [.int .i64 q420.From, .int .i64 q420.To, .int .i64 q420.Delay, .int .i64 q420.Tokens]) hf hs rfl rfl rfl rfl rfl rfl ti64 rfl rfl rfl (Nat.le_of_ble_eq_true rfl) rfl ?_; clear hs; intro w hs
             have hs : St [] W w [.blk b14 55 [.int .i64 r4.1.Events, .slice A6 n7 c8], .row A6 n7 c8 64 4 ((recs GPlace.cells) r4.1.Places), .row A10 n11 c12 2 1 (ints r4.2.2), .blk b21 66 [.int .i64 r15.1.Period, .slice A17 n18 c19], .row A17 n18 c19 2 1 (ints r15.1.Starts), .blk b422 64 [.int .i64 q420.From, .int .i64 q420.To, .int .i64 q420.Delay, .int .i64 q420.Tokens]] := hs
             refine wpO_nil ?_
             obtain ⟨r430, hj431, hm417⟩ := bind_some hm417
             refine wpL_cut (fun a w => ∃ b429 : Bool, b429 = r430 ∧ Fr a 148 [(3, .pointer (some ⟨b14, 0, none⟩)), (4, .int .i64 r4.2.1), (5, .slice A10 n11 c12), (6, .pointer (some ⟨b21, 0, none⟩)), (14, .int .i64 x252), (15, .bool b429), (16, .int .i64 x394)] ∧ St [] W w [.blk b14 55 [.int .i64 r4.1.Events, .slice A6 n7 c8], .row A6 n7 c8 64 4 ((recs GPlace.cells) r4.1.Places), .row A10 n11 c12 2 1 (ints r4.2.2), .blk b21 66 [.int .i64 r15.1.Period, .slice A17 n18 c19], .row A17 n18 c19 2 1 (ints r15.1.Starts)]) ?_ ?_
             ·refine wpL_draw (by kernel_rfl) (by kernel_rfl) hs ?_
              refine qY hf rfl rfl rfl (Y_move rfl rfl) ?_; clear hf; intro a hf
              refine qY hf rfl rfl rfl (Y_move rfl rfl) ?_; clear hf; intro a hf
              refine bsplit b393 (fun hb432 => ?_) (fun hb432 => ?_)
              ·have hj431 := bif_t hj431 hb432
               refine qNo hf rfl rfl rfl (congrArg (fun b => some (Value.bool b)) hb432) rfl rfl rfl ?_; clear hf; intro a hf
               refine qNo hf rfl rfl rfl (congrArg (fun b => some (Value.bool b)) hb432) rfl rfl rfl ?_; clear hf; intro a hf
               refine qNo hf rfl rfl rfl (congrArg (fun b => some (Value.bool b)) hb432) rfl rfl rfl ?_; clear hf; intro a hf
               refine qNo hf rfl rfl rfl (congrArg (fun b => some (Value.bool b)) hb432) rfl rfl rfl ?_; clear hf; intro a hf
               refine qNo hf rfl rfl rfl (congrArg (fun b => some (Value.bool b)) hb432) rfl rfl rfl ?_; clear hf; intro a hf
               refine qNoU hf rfl rfl rfl rfl rfl rfl rfl ?_; clear hf; intro a hf
               refine qNoU hf rfl rfl rfl rfl rfl rfl rfl ?_; clear hf; intro a hf
               refine qNoU hf rfl rfl rfl rfl rfl rfl rfl ?_; clear hf; intro a hf
               refine qNoU hf rfl rfl rfl rfl rfl rfl rfl ?_; clear hf; intro a hf
               refine qNoU hf rfl rfl rfl rfl rfl rfl rfl ?_; clear hf; intro a hf
               refine qNoU hf rfl rfl rfl rfl rfl rfl rfl ?_; clear hf; intro a hf
               refine qNoU hf rfl rfl rfl rfl rfl rfl rfl ?_; clear hf; intro a hf
               refine qNoU hf rfl rfl rfl rfl rfl rfl rfl ?_; clear hf; intro a hf
               refine qNoU hf rfl rfl rfl rfl rfl rfl rfl ?_; clear hf; intro a hf
               refine qNoU hf rfl rfl rfl rfl rfl rfl rfl ?_; clear hf; intro a hf
               refine qNoU hf rfl rfl rfl rfl rfl rfl rfl ?_; clear hf; intro a hf
               refine qNoU hf rfl rfl rfl rfl rfl rfl rfl ?_; clear hf; intro a hf
               refine qNoU hf rfl rfl rfl rfl rfl rfl rfl ?_; clear hf; intro a hf
               refine qNoU hf rfl rfl rfl rfl rfl rfl rfl ?_; clear hf; intro a hf
               refine qNoU hf rfl rfl rfl rfl rfl rfl rfl ?_; clear hf; intro a hf
               refine qNoU hf rfl rfl rfl rfl rfl rfl rfl ?_; clear hf; intro a hf
               refine qNoU hf rfl rfl rfl rfl rfl rfl rfl ?_; clear hf; intro a hf
               refine qNoU hf rfl rfl rfl rfl rfl rfl rfl ?_; clear hf; intro a hf
               refine qNoU hf rfl rfl rfl rfl rfl rfl rfl ?_; clear hf; intro a hf
               refine qNoU hf rfl rfl rfl rfl rfl rfl rfl ?_; clear hf; intro a hf
               refine qNoU hf rfl rfl rfl rfl rfl rfl rfl ?_; clear hf; intro a hf
               refine qNo hf rfl rfl rfl (congrArg (fun b => some (Value.bool b)) hb432) rfl rfl rfl ?_; clear hf; intro a hf
               refine qY hf rfl rfl rfl (Y_pickT rfl (congrArg (fun b => some (Value.bool b)) hb432) rfl) ?_; clear hf; intro a hf
               refine qY hf rfl rfl rfl (Y_assign rfl rfl) ?_; clear hf; intro a hf
               refine qNil ?_; clear hs; intro w hs
               refine wpL_nil (then_normal ?_)
               exact ⟨true, Option.some.inj hj431, (FrD.pick (FrD.pick (FrD.pick (FrD.pick (FrD.pick (FrD.pick (FrD.pick hf.none hf rfl) hf rfl) hf rfl) hf rfl) hf rfl) hf rfl) hf rfl), hs.sel [0, 1, 2, 3, 4] (by decide)⟩
              ·have hj431 := bif_f hj431 hb432
               refine qYg hf rfl rfl rfl (congrArg (fun b => some (Value.bool b)) hb432) rfl rfl rfl (Y_fieldAddr rfl rfl fo64_0) ?_; clear hf; intro a hf
               refine qYg hf rfl rfl rfl (congrArg (fun b => some (Value.bool b)) hb432) rfl rfl rfl (Y_load_blk rfl rfl (i := 5) rfl rfl ag2) ?_; clear hf; intro a hf
               refine qYg hf rfl rfl rfl (congrArg (fun b => some (Value.bool b)) hb432) rfl rfl rfl (Y_move rfl rfl) ?_; clear hf; intro a hf
               refine qYg hf rfl rfl rfl (congrArg (fun b => some (Value.bool b)) hb432) rfl rfl rfl (Y_eql rfl rfl rfl) ?_; clear hf; intro a hf
               refine qYg hf rfl rfl rfl (congrArg (fun b => some (Value.bool b)) hb432) rfl rfl rfl (Y_move rfl rfl) ?_; clear hf; intro a hf
               refine bsplit (q420.From == x252) (fun hb433 => ?_) (fun hb433 => ?_)
               ·have hj431 := bif_t hj431 hb433
                refine qYg hf rfl rfl rfl (congrArg (fun b => some (Value.bool b)) hb433) rfl rfl rfl (Y_fieldAddr rfl rfl fo66_1) ?_; clear hf; intro a hf
                refine qYg hf rfl rfl rfl (congrArg (fun b => some (Value.bool b)) hb433) rfl rfl rfl (Y_load_blk rfl rfl (i := 3) rfl rfl ag28) ?_; clear hf; intro a hf
                refine qYg hf rfl rfl rfl (congrArg (fun b => some (Value.bool b)) hb433) rfl rfl rfl (Y_fieldAddr rfl rfl fo64_1) ?_; clear hf; intro a hf
                refine qYg hf rfl rfl rfl (congrArg (fun b => some (Value.bool b)) hb433) rfl rfl rfl (Y_load_blk rfl rfl (i := 5) rfl rfl ag2) ?_; clear hf; intro a hf
                obtain ⟨q434, hi435, hj431⟩ := bind_some hj431
                obtain ⟨hi435a, hi435b, hi435q⟩ := idx_some hi435
                refine qYg hf rfl rfl rfl (congrArg (fun b => some (Value.bool b)) hb433) rfl rfl rfl (Y_index rfl rfl rfl el28 ti2 (Rd.isAt (hs.rd (i := 4) rfl) (at1 (ints_at hi435q))) hi435a (ltn hn20 hi435b)) ?_; clear hf; intro a hf
                refine qYg hf rfl rfl rfl (congrArg (fun b => some (Value.bool b)) hb433) rfl rfl rfl (Y_load_rd rfl rfl (fun w hs => hs.rd (i := 4) rfl) (at1 (ints_at hi435q)) ag2) ?_; clear hf; intro a hf
                refine qYg hf rfl rfl rfl (congrArg (fun b => some (Value.bool b)) hb433) rfl rfl rfl (Y_fieldAddr rfl rfl fo64_3) ?_; clear hf; intro a hf
                refine qYg hf rfl rfl rfl (congrArg (fun b => some (Value.bool b)) hb433) rfl rfl rfl (Y_load_blk rfl rfl (i := 5) rfl rfl ag2) ?_; clear hf; intro a hf
                refine qYg hf rfl rfl rfl (congrArg (fun b => some (Value.bool b)) hb433) rfl rfl rfl (Y_move rfl rfl) ?_; clear hf; intro a hf
                refine qYg hf rfl rfl rfl (congrArg (fun b => some (Value.bool b)) hb433) rfl rfl rfl (Y_mul rfl rfl rfl) ?_; clear hf; intro a hf
                refine qYg hf rfl rfl rfl (congrArg (fun b => some (Value.bool b)) hb433) rfl rfl rfl (Y_add rfl rfl rfl) ?_; clear hf; intro a hf
                refine qYg hf rfl rfl rfl (congrArg (fun b => some (Value.bool b)) hb433) rfl rfl rfl (Y_fieldAddr rfl rfl fo66_1) ?_; clear hf; intro a hf
                refine qYg hf rfl rfl rfl (congrArg (fun b => some (Value.bool b)) hb433) rfl rfl rfl (Y_load_blk rfl rfl (i := 3) rfl rfl ag28) ?_; clear hf; intro a hf
                refine qYg hf rfl rfl rfl (congrArg (fun b => some (Value.bool b)) hb433) rfl rfl rfl (Y_move rfl rfl) ?_; clear hf; intro a hf
                obtain ⟨q436, hi437, hj431⟩ := bind_some hj431
                obtain ⟨hi437a, hi437b, hi437q⟩ := idx_some hi437
                refine qYg hf rfl rfl rfl (congrArg (fun b => some (Value.bool b)) hb433) rfl rfl rfl (Y_index rfl rfl rfl el28 ti2 (Rd.isAt (hs.rd (i := 4) rfl) (at1 (ints_at hi437q))) hi437a (ltn hn20 hi437b)) ?_; clear hf; intro a hf
                refine qYg hf rfl rfl rfl (congrArg (fun b => some (Value.bool b)) hb433) rfl rfl rfl (Y_load_rd rfl rfl (fun w hs => hs.rd (i := 4) rfl) (at1 (ints_at hi437q)) ag2) ?_; clear hf; intro a hf
                refine qYg hf rfl rfl rfl (congrArg (fun b => some (Value.bool b)) hb433) rfl rfl rfl (Y_sub rfl rfl rfl) ?_; clear hf; intro a hf
                refine qYg hf rfl rfl rfl (congrArg (fun b => some (Value.bool b)) hb433) rfl rfl rfl (Y_fieldAddr rfl rfl fo64_2) ?_; clear hf; intro a hf
                refine qYg hf rfl rfl rfl (congrArg (fun b => some (Value.bool b)) hb433) rfl rfl rfl (Y_load_blk rfl rfl (i := 5) rfl rfl ag2) ?_; clear hf; intro a hf
                refine qYg hf rfl rfl rfl (congrArg (fun b => some (Value.bool b)) hb433) rfl rfl rfl (Y_sub rfl rfl rfl) ?_; clear hf; intro a hf
                refine qYg hf rfl rfl rfl (congrArg (fun b => some (Value.bool b)) hb433) rfl rfl rfl (Y_eql rfl rfl rfl) ?_; clear hf; intro a hf
                refine qYg hf rfl rfl rfl (congrArg (fun b => some (Value.bool b)) hb432) rfl rfl rfl (Y_pickT rfl (congrArg (fun b => some (Value.bool b)) hb433) rfl) ?_; clear hf; intro a hf
                refine qY hf rfl rfl rfl (Y_pickF rfl (congrArg (fun b => some (Value.bool b)) hb432) rfl) ?_; clear hf; intro a hf
                refine qY hf rfl rfl rfl (Y_assign rfl rfl) ?_; clear hf; intro a hf
                refine qNil ?_; clear hs; intro w hs
                refine wpL_nil (then_normal ?_)
                exact ⟨((IntKind.i64.wrap ((IntKind.i64.wrap ((IntKind.i64.wrap (q434 + (IntKind.i64.wrap (q420.Tokens * r4.2.1)))) - q436)) - q420.Delay)) == 0), Option.some.inj hj431, (FrD.pick (FrD.pick (FrD.pick (FrD.pick (FrD.pick (FrD.pick (FrD.pick hf.none hf rfl) hf rfl) hf rfl) hf rfl) hf rfl) hf rfl) hf rfl), hs.sel [0, 1, 2, 3, 4] (by decide)⟩
               ·have hj431 := bif_f hj431 hb433
                refine qNo hf rfl rfl rfl (congrArg (fun b => some (Value.bool b)) hb433) rfl rfl rfl ?_; clear hf; intro a hf
                refine qNo hf rfl rfl rfl (congrArg (fun b => some (Value.bool b)) hb433) rfl rfl rfl ?_; clear hf; intro a hf
                refine qNo hf rfl rfl rfl (congrArg (fun b => some (Value.bool b)) hb433) rfl rfl rfl ?_; clear hf; intro a hf
                refine qNo hf rfl rfl rfl (congrArg (fun b => some (Value.bool b)) hb433) rfl rfl rfl ?_; clear hf; intro a hf
                refine qNo hf rfl rfl rfl (congrArg (fun b => some (Value.bool b)) hb433) rfl rfl rfl ?_; clear hf; intro a hf
                refine qNo hf rfl rfl rfl (congrArg (fun b => some (Value.bool b)) hb433) rfl rfl rfl ?_; clear hf; intro a hf
                refine qNo hf rfl rfl rfl (congrArg (fun b => some (Value.bool b)) hb433) rfl rfl rfl ?_; clear hf; intro a hf
                refine qNo hf rfl rfl rfl (congrArg (fun b => some (Value.bool b)) hb433) rfl rfl rfl ?_; clear hf; intro a hf
                refine qNo hf rfl rfl rfl (congrArg (fun b => some (Value.bool b)) hb433) rfl rfl rfl ?_; clear hf; intro a hf
                refine qNo hf rfl rfl rfl (congrArg (fun b => some (Value.bool b)) hb433) rfl rfl rfl ?_; clear hf; intro a hf
                refine qNo hf rfl rfl rfl (congrArg (fun b => some (Value.bool b)) hb433) rfl rfl rfl ?_; clear hf; intro a hf
                refine qNo hf rfl rfl rfl (congrArg (fun b => some (Value.bool b)) hb433) rfl rfl rfl ?_; clear hf; intro a hf
                refine qNo hf rfl rfl rfl (congrArg (fun b => some (Value.bool b)) hb433) rfl rfl rfl ?_; clear hf; intro a hf
                refine qNo hf rfl rfl rfl (congrArg (fun b => some (Value.bool b)) hb433) rfl rfl rfl ?_; clear hf; intro a hf
                refine qNo hf rfl rfl rfl (congrArg (fun b => some (Value.bool b)) hb433) rfl rfl rfl ?_; clear hf; intro a hf
                refine qNo hf rfl rfl rfl (congrArg (fun b => some (Value.bool b)) hb433) rfl rfl rfl ?_; clear hf; intro a hf
                refine qNo hf rfl rfl rfl (congrArg (fun b => some (Value.bool b)) hb433) rfl rfl rfl ?_; clear hf; intro a hf
                refine qNo hf rfl rfl rfl (congrArg (fun b => some (Value.bool b)) hb433) rfl rfl rfl ?_; clear hf; intro a hf
                refine qNo hf rfl rfl rfl (congrArg (fun b => some (Value.bool b)) hb433) rfl rfl rfl ?_; clear hf; intro a hf
                refine qNo hf rfl rfl rfl (congrArg (fun b => some (Value.bool b)) hb433) rfl rfl rfl ?_; clear hf; intro a hf
                refine qNo hf rfl rfl rfl (congrArg (fun b => some (Value.bool b)) hb433) rfl rfl rfl ?_; clear hf; intro a hf
                refine qYg hf rfl rfl rfl (congrArg (fun b => some (Value.bool b)) hb432) rfl rfl rfl (Y_pickF rfl (congrArg (fun b => some (Value.bool b)) hb433) rfl) ?_; clear hf; intro a hf
                refine qY hf rfl rfl rfl (Y_pickF rfl (congrArg (fun b => some (Value.bool b)) hb432) rfl) ?_; clear hf; intro a hf
                refine qY hf rfl rfl rfl (Y_assign rfl rfl) ?_; clear hf; intro a hf
                refine qNil ?_; clear hs; intro w hs
                refine wpL_nil (then_normal ?_)
                exact ⟨false, Option.some.inj hj431, (FrD.pick (FrD.pick (FrD.pick (FrD.pick (FrD.pick (FrD.pick (FrD.pick hf.none hf rfl) hf rfl) hf rfl) hf rfl) hf rfl) hf rfl) hf rfl), hs.sel [0, 1, 2, 3, 4] (by decide)⟩
             ·rintro a w ⟨b429, hr_, hf, hs⟩
              subst hr_
              try dsimp only at hm417
              refine wpL_nil (Qb_normal ?_)
              refine wpL_region ?_
              refine sY hf hs rfl rfl rfl (Y_move rfl rfl) ?_; clear hf; intro a hf
              refine sY hf hs rfl rfl rfl (Y_add rfl rfl rfl) ?_; clear hf; intro a hf
              refine sY hf hs rfl rfl rfl (Y_assign rfl rfl) ?_; clear hf; intro a hf
              refine wpO_nil ?_
              refine wpL_nil (Ql_normal ?_)
              exact ⟨b429, (IntKind.i64.wrap (x394 + 1)), hm417, (FrD.pick (FrD.pick (FrD.pick (FrD.pick (FrD.pick (FrD.pick (FrD.pick hf.none hf rfl) hf rfl) hf rfl) hf rfl) hf rfl) hf rfl) hf rfl), hs⟩
            ·have hm417 := bif_f hm417 hb419
             refine wpL_exit (Ql_exit (Qb_exit ?_))
             exact ⟨b393, Option.some.inj hm417, (FrD.pick (FrD.pick (FrD.pick (FrD.pick (FrD.pick (FrD.pick hf.none hf rfl) hf rfl) hf rfl) hf rfl) hf rfl) hf rfl), hs⟩
          ·rintro a w ⟨b414, hr_, hf, hs⟩
           subst hr_
           try dsimp only at hm346
           refine wpL_seq <| wpL_region ?_
           refine sY hf hs rfl rfl rfl (Y_move rfl rfl) ?_; clear hf; intro a hf
           refine sY hf hs rfl rfl rfl (Y_not rfl rfl) ?_; clear hf; intro a hf
           refine wpO_nil ?_
           refine wpL_cond hf rfl (fun hb438 => ?_) (fun hb438 => ?_)
           ·have hm346 := bif_t hm346 hb438
            refine wpL_seq <| wpL_region ?_
            refine sY hf hs rfl rfl rfl (Y_assign rfl rfl) ?_; clear hf; intro a hf
            refine wpO_nil ?_
            obtain rfl := Option.some.inj hm346
            try dsimp only at hm
            obtain rfl := Option.some.inj hm
            refine wpL_ret (Qb_ret (Ql_ret (Qb_ret (ret_tmp rfl hf rfl ?_))))
            exact ⟨_, rfl, rfl, hs.sel [] (by decide)⟩
           ·have hm346 := bif_f hm346 hb438
            refine wpL_skip ?_
            refine wpL_nil (Qb_normal ?_)
            refine wpL_region ?_
            refine sY hf hs rfl rfl rfl (Y_move rfl rfl) ?_; clear hf; intro a hf
            refine sY hf hs rfl rfl rfl (Y_add rfl rfl rfl) ?_; clear hf; intro a hf
            refine sY hf hs rfl rfl rfl (Y_assign rfl rfl) ?_; clear hf; intro a hf
            refine wpO_nil ?_
            refine wpL_nil (Ql_normal ?_)
            exact ⟨(IntKind.i64.wrap (x252 + 1)), hm346, (FrD.pick (FrD.pick (FrD.pick (FrD.pick (FrD.pick hf.none hf rfl) hf rfl) hf rfl) hf rfl) hf rfl), hs⟩
         ·have hm346 := bif_f hm346 hb348
          refine wpL_exit (Ql_exit (Qb_exit ?_))
          exact ⟨Option.some.inj hm346, hf.none, hs.sel [] (by decide)⟩
       ·rintro a w ⟨hr_, hf, hs⟩
        subst hr_
        try dsimp only at hm
        refine wpL_seq <| wpL_region ?_
        refine sY hf hs rfl rfl rfl (Y_assign rfl rfl) ?_; clear hf; intro a hf
        refine wpO_nil ?_
        obtain rfl := Option.some.inj hm
        refine wpL_ret (ret_tmp rfl hf rfl ?_)
        exact ⟨_, rfl, rfl, hs⟩

end Go.Proofs.Ytebmlphobgaboab
