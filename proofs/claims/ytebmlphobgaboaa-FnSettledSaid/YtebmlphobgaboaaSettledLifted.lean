/- The functions do what their models say. -/
import Derived.Test.YtebmlphobgaboaaSettledLifted5
import Derived.Test.YtebmlphobgaboaaRows
namespace Go.Proofs.Ytebmlphobgaboaa
open Go.RowKit

set_option maxRecDepth 100000 in
theorem impl_DelayTable_ok (F : Nat) (ag : GEventGraph) (af : Option Addr) (av ai : Nat) (aA : av = ag.Places.length) (ao : GTimetable) (am : Option Addr) (aG aq : Nat) (aS : aG = ao.Starts.length) (az : List Int) (aC : Option Addr) (aI aD : Nat) (aT : aI = az.length) (cN : Int) (r : List (List Int) × Int) (W : World) (hm : impl_DelayTable F ag ao az cN = some r) (aw : Rd W af ((recs GPlace.cells) ag.Places)) (aH : Rd W am (ints ao.Starts)) (aP : Rd W aC (ints az)) :
  Calls Try.prog 37 [.agg #[.int .i64 ag.Events, .slice af av ai], .agg #[.int .i64 ao.Period, .slice am aG aq], .slice aC aI aD, .int .i64 cN].toArray W fun e w' => ∃ v, e = .returned v ∧ ∃ A16, ∃ n17, ∃ c18, ∃ vs20, v = .tuple #[.slice A16 n17 c18, .int .i64 r.2] ∧ n17 = r.1.length ∧ St [] W w' [.mat A16 n17 c18 23 2 vs20 r.1] := by
 subst aA
 subst aS
 subst aT
 unfold impl_DelayTable at hm
 refine Calls.enter (N := 25) Try.func37 rfl rfl rfl (fun a hf => ?_)
 have hs := St.start W
 obtain ⟨w, hw_⟩ : ∃ w, w = W := ⟨W, rfl⟩
 clear hw_ w
 refine wpL_seq <| wpL_region ?_
 refine sBox hf hs rfl rfl rfl rfl rfl (cs := [.int .i64 ag.Events, .slice af ag.Places.length ai]) rfl ?_; clear hf hs; intro a w b1 hs hf
 have hs : St [] W w [.blk b1 52 [.int .i64 ag.Events, .slice af ag.Places.length ai]] := hs
 refine sBox hf hs rfl rfl rfl rfl rfl (cs := [.int .i64 ao.Period, .slice am ao.Starts.length aq]) rfl ?_; clear hf hs; intro a w b2 hs hf
 have hs : St [] W w [.blk b1 52 [.int .i64 ag.Events, .slice af ag.Places.length ai], .blk b2 54 [.int .i64 ao.Period, .slice am ao.Starts.length aq]] := hs
 refine sY hf hs rfl rfl rfl (Y_assign rfl rfl) ?_; clear hf; intro a hf
 refine sY hf hs rfl rfl rfl (Y_assign rfl rfl) ?_; clear hf; intro a hf
 refine wpO_nil <| wpL_seq <| wpL_seq ?_
 refine wpL_draw (by kernel_rfl) (by kernel_rfl) hs ?_
 refine qY hf rfl rfl rfl (Y_load_blkS rfl rfl (i := 0) rfl ag52 ti52 rfl) ?_; clear hf; intro a hf
 refine qY hf rfl rfl rfl (Y_load_blkS rfl rfl (i := 1) rfl ag54 ti54 rfl) ?_; clear hf; intro a hf
 refine qY hf rfl rfl rfl (Y_move rfl rfl) ?_; clear hf; intro a hf
 refine qY hf rfl rfl rfl (Y_move rfl rfl) ?_; clear hf; intro a hf
 obtain ⟨r3, hc4, hm⟩ := bind_some hm
 refine qCall hf rfl rfl rfl rfl (cap := []) rfl rfl en85 (v := .bool r3) (fun w hs => Calls.scal (impl_within_ok F cN 0 50 _ _ hc4)) ?_; clear hf; intro a hf
 obtain ⟨r5, hc6, hm⟩ := bind_some hm
 refine qCall hf rfl rfl rfl rfl (cap := []) rfl rfl en77 (v := .int .i64 r5) (fun w hs => Calls.scal (impl_checkDelays_ok F ag af ag.Places.length ai rfl ao am ao.Starts.length aq rfl az aC az.length aD rfl r3 _ _ hc6 (aw.at hs) (aH.at hs) (aP.at hs))) ?_; clear hf; intro a hf
 refine qY hf rfl rfl rfl (Y_assign rfl rfl) ?_; clear hf; intro a hf
 refine qNil ?_; clear hs; intro w hs
 refine wpL_seq <| wpL_region ?_
 refine sY hf hs rfl rfl rfl (Y_move rfl rfl) ?_; clear hf; intro a hf
 refine sY hf hs rfl rfl rfl (Y_neq rfl rfl rfl) ?_; clear hf; intro a hf
 refine wpO_nil ?_
 refine wpL_cond hf rfl (fun hb7 => ?_) (fun hb7 => ?_)
 ·have hm := bif_t hm hb7
  refine wpL_seq <| wpL_region ?_
  refine sY hf hs rfl rfl rfl (Y_move rfl rfl) ?_; clear hf; intro a hf
  refine sY hf hs rfl rfl rfl (Y_assign rfl rfl) ?_; clear hf; intro a hf
  refine sY hf hs rfl rfl rfl (Y_assign rfl rfl) ?_; clear hf; intro a hf
  refine wpO_nil ?_
  have hs : St [] W _ [.blk b1 52 [.int .i64 ag.Events, .slice af ag.Places.length ai], .blk b2 54 [.int .i64 ao.Period, .slice am ao.Starts.length aq], .mat none 0 0 23 2 [] ([] : List (List Int))] := hs.addNilM 23 2
  obtain rfl := Option.some.inj hm
  refine wpL_ret (ret_tmp2 rfl hf rfl rfl ?_)
  exact ⟨_, rfl, none, 0, 0, [], rfl, rfl, hs.sel [2] (by decide)⟩
 ·have hm := bif_f hm hb7
  refine wpL_skip <| wpL_seq <| wpL_region ?_
  refine sY hf hs rfl rfl rfl (Y_load_blkS rfl rfl (i := 0) rfl ag52 ti52 rfl) ?_; clear hf; intro a hf
  refine sY hf hs rfl rfl rfl (Y_load_blkS rfl rfl (i := 1) rfl ag54 ti54 rfl) ?_; clear hf; intro a hf
  refine sY hf hs rfl rfl rfl (Y_move rfl rfl) ?_; clear hf; intro a hf
  refine sY hf hs rfl rfl rfl (Y_move rfl rfl) ?_; clear hf; intro a hf
  obtain ⟨r9, hc10, hm⟩ := bind_some hm
  refine sCall hf rfl rfl rfl rfl (cap := []) rfl rfl en86 (impl_delayTable_ok F ag af ag.Places.length ai rfl ao am ao.Starts.length aq rfl az aC az.length aD rfl cN _ _ hc10 (aw.at hs) (aH.at hs) (aP.at hs)) ?_; clear hf
  rintro _ w ⟨A11, n12, c13, vs15, rfl, hn14, hs1⟩ a hf
  have hs : St [] W w [.blk b1 52 [.int .i64 ag.Events, .slice af ag.Places.length ai], .blk b2 54 [.int .i64 ao.Period, .slice am ao.Starts.length aq], .mat A11 n12 c13 23 2 vs15 r9] := hs.join hs1
  clear hs1
  refine sY hf hs rfl rfl rfl (Y_assign rfl rfl) ?_; clear hf; intro a hf
  refine sY hf hs rfl rfl rfl (Y_assign rfl rfl) ?_; clear hf; intro a hf
  refine wpO_nil ?_
  obtain rfl := Option.some.inj hm
  refine wpL_ret (ret_tmp2 rfl hf rfl rfl ?_)
  exact ⟨_, rfl, A11, n12, c13, vs15, rfl, hn14, hs.sel [2] (by decide)⟩

set_option maxRecDepth 100000 in
theorem laws_sum_ok (F : Nat) (aL : List Int) (aM : Option Addr) (aW aX : Nat) (bi : aW = aL.length) (r : Int) (W : World) (hm : laws_sum F aL = some r) (aY : Rd W aM (ints aL)) :
  Calls Try.prog 38 [.slice aM aW aX].toArray W fun e w' => ∃ v, e = .returned v ∧ v = .int .i64 r ∧ St [] W w' [] := by
 subst bi
 unfold laws_sum at hm
 refine Calls.enter (N := 18) Try.func38 rfl rfl rfl (fun a hf => ?_)
 have hs := St.start W
 obtain ⟨w, hw_⟩ : ∃ w, w = W := ⟨W, rfl⟩
 clear hw_ w
 refine wpL_seq <| wpL_region ?_
 refine sY hf hs rfl rfl rfl (Y_assign rfl rfl) ?_; clear hf; intro a hf
 refine wpO_nil <| wpL_seq <| wpL_region ?_
 refine sY hf hs rfl rfl rfl (Y_assign rfl rfl) ?_; clear hf; intro a hf
 refine wpO_nil <| wpL_seq <| wpL_seq <| wpL_region ?_
 refine sY hf hs rfl rfl rfl (Y_assign rfl rfl) ?_; clear hf; intro a hf
 refine wpO_nil ?_
 obtain ⟨r15, hl16, hm⟩ := bind_some hm
 refine wpL_block (fun a w => ∃ x14 : Int, x14 = r15 ∧ Fr a 18 [(3, .int .i64 x14)] ∧ St [] W w []) ?_ ?_
 ·refine wpL_loop (fun n a w => ∃ x9 : Int, ∃ x10 : Int, laws_sum_L1 F aL n x9 x10 = some r15 ∧ Fr a 18 [(0, .slice aM aL.length aX), (3, .int .i64 x9), (4, .int .i64 x10)] ∧ St [] W w []) F ?_ ?_ ?_
  ·exact ⟨0, 0, hl16, (FrD.pick (FrD.pick (FrD.pick hf.none hf rfl) hf rfl) hf rfl), hs⟩
  ·rintro a w ⟨x9, x10, h0_, -, -⟩; simp [laws_sum_L1] at h0_
  ·rintro n18 a w ⟨x9, x10, hm17, hf, hs⟩
   rw [laws_sum_L1] at hm17
   refine wpL_seq <| wpL_seq <| wpL_region ?_
   refine sY hf hs rfl rfl rfl (Y_move rfl rfl) ?_; clear hf; intro a hf
   refine sY hf hs rfl rfl rfl (Y_move rfl rfl) ?_; clear hf; intro a hf
   refine sY hf hs rfl rfl rfl (Y_lenH rfl rfl el23 rfl) ?_; clear hf; intro a hf
   refine sY hf hs rfl rfl rfl (Y_lss rfl rfl rfl) ?_; clear hf; intro a hf
   refine wpO_nil ?_
   refine wpL_cond hf rfl (fun hb19 => ?_) (fun hb19 => ?_)
   ·have hm17 := bif_t hm17 hb19
    refine wpL_skip <| wpL_seq <| wpL_block0 <| wpL_region ?_
    refine sY hf hs rfl rfl rfl (Y_move rfl rfl) ?_; clear hf; intro a hf
    refine sY hf hs rfl rfl rfl (Y_move rfl rfl) ?_; clear hf; intro a hf
    refine sY hf hs rfl rfl rfl (Y_move rfl rfl) ?_; clear hf; intro a hf
    obtain ⟨q20, hi21, hm17⟩ := bind_some hm17
    obtain ⟨hi21a, hi21b, hi21q⟩ := idx_some hi21
    refine sY hf hs rfl rfl rfl (Y_index rfl rfl rfl el23 ti2 (Rd.isAt (aY.at hs) (at1 (ints_at hi21q))) hi21a hi21b) ?_; clear hf; intro a hf
    refine sY hf hs rfl rfl rfl (Y_load_rd rfl rfl (fun w hs => aY.at hs) (at1 (ints_at hi21q)) ag2) ?_; clear hf; intro a hf
    refine sY hf hs rfl rfl rfl (Y_add rfl rfl rfl) ?_; clear hf; intro a hf
    refine sY hf hs rfl rfl rfl (Y_assign rfl rfl) ?_; clear hf; intro a hf
    refine wpO_nil ?_
    refine wpL_nil (Qb_normal ?_)
    refine wpL_region ?_
    refine sY hf hs rfl rfl rfl (Y_move rfl rfl) ?_; clear hf; intro a hf
    refine sY hf hs rfl rfl rfl (Y_add rfl rfl rfl) ?_; clear hf; intro a hf
    refine sY hf hs rfl rfl rfl (Y_assign rfl rfl) ?_; clear hf; intro a hf
    refine wpO_nil ?_
    refine wpL_nil (Ql_normal ?_)
    exact ⟨(IntKind.i64.wrap (x9 + q20)), (IntKind.i64.wrap (x10 + 1)), hm17, (FrD.pick (FrD.pick (FrD.pick hf.none hf rfl) hf rfl) hf rfl), hs⟩
   ·have hm17 := bif_f hm17 hb19
    refine wpL_exit (Ql_exit (Qb_exit ?_))
    exact ⟨x9, Option.some.inj hm17, (FrD.pick hf.none hf rfl), hs⟩
 ·rintro a w ⟨x14, hr_, hf, hs⟩
  subst hr_
  try dsimp only at hm
  refine wpL_seq <| wpL_region ?_
  refine sY hf hs rfl rfl rfl (Y_move rfl rfl) ?_; clear hf; intro a hf
  refine sY hf hs rfl rfl rfl (Y_assign rfl rfl) ?_; clear hf; intro a hf
  refine wpO_nil ?_
  obtain rfl := Option.some.inj hm
  refine wpL_ret (ret_tmp rfl hf rfl ?_)
  exact ⟨_, rfl, rfl, hs⟩

set_option maxHeartbeats 2000000 in
set_option maxRecDepth 100000 in
theorem laws_FnSettled_ok (F : Nat) (p0 : List Int) (au : Option Addr) (aZ ax : Nat) (bQ : aZ = p0.length) (r : Bool) (W : World) (hm : laws_FnSettled F p0 = some r) (ba : Rd W au (bytes p0)) :
  Calls Try.prog 6 [.slice au aZ ax].toArray W fun e w' => ∃ v, e = .returned v ∧ v = .bool r ∧ St [] W w' [] := by
 subst bQ
 unfold laws_FnSettled at hm
 refine Calls.enter (N := 129) Try.func6 rfl rfl rfl (fun a hf => ?_)
 have hs := St.start W
 obtain ⟨w, hw_⟩ : ∃ w, w = W := ⟨W, rfl⟩
 clear hw_ w
 refine wpL_seq <| wpL_region ?_
 refine sY hf hs rfl rfl rfl (Y_assign rfl rfl) ?_; clear hf; intro a hf
 refine wpO_nil <| wpL_seq <| wpL_seq <| wpL_region ?_
 refine sY hf hs rfl rfl rfl (Y_move rfl rfl) ?_; clear hf; intro a hf
 obtain ⟨r1, hc2, hm⟩ := bind_some hm
 refine sCall hf rfl rfl rfl rfl (cap := []) rfl rfl en31 (laws_big_ok F p0 au p0.length ax rfl _ _ hc2 (ba.at hs)) ?_; clear hf
 rintro _ w ⟨rfl, hs1⟩ a hf
 have hs : St [] W w [] := hs.ext hs1.below
 clear hs1
 refine wpO_nil ?_
 refine wpL_cond hf rfl (fun hb3 => ?_) (fun hb3 => ?_)
 ·have hm := bif_t hm hb3
  refine wpL_seq <| wpL_region ?_
  refine sY hf hs rfl rfl rfl (Y_assign rfl rfl) ?_; clear hf; intro a hf
  refine wpO_nil ?_
  obtain rfl := Option.some.inj hm
  refine wpL_ret (ret_tmp rfl hf rfl ?_)
  exact ⟨_, rfl, rfl, hs⟩
 ·have hm := bif_f hm hb3
  refine wpL_skip <| wpL_seq <| wpL_region ?_
  refine sY hf hs rfl rfl rfl (Y_move rfl rfl) ?_; clear hf; intro a hf
  obtain ⟨r4, hc5, hm⟩ := bind_some hm
  refine sCall hf rfl rfl rfl rfl (cap := []) rfl rfl en32 (spec_DrawSettledAfter_ok F p0 au p0.length ax rfl _ _ hc5 (ba.at hs)) ?_; clear hf
  rintro _ w ⟨A6, n7, c8, A10, n11, c12, A14, n15, c16, rfl, hn9, hn13, hn17, hs1⟩ a hf
  have hs : St [] W w [.row A6 n7 c8 112 4 ((recs GPlace.cells) r4.1.Places), .row A10 n11 c12 2 1 (ints r4.2.1.Starts), .row A14 n15 c16 2 1 (ints r4.2.2)] := hs.join hs1
  clear hs1
  refine sY hf hs rfl rfl rfl (Y_move rfl rfl) ?_; clear hf; intro a hf
  refine sY hf hs rfl rfl rfl (Y_extract rfl rfl rfl) ?_; clear hf; intro a hf
  refine sY hf hs rfl rfl rfl (Y_extract rfl rfl rfl) ?_; clear hf; intro a hf
  refine sY hf hs rfl rfl rfl (Y_extract rfl rfl rfl) ?_; clear hf; intro a hf
  refine sAlloc hf hs rfl rfl rfl rfl ti52 ?_; clear hf hs; intro a w b18 hs hf
  have hs : St [] W w [.row A6 n7 c8 112 4 ((recs GPlace.cells) r4.1.Places), .row A10 n11 c12 2 1 (ints r4.2.1.Starts), .row A14 n15 c16 2 1 (ints r4.2.2), .blk b18 52 [.int .i64 0, .slice none 0 0]] := hs
  refine sAlloc hf hs rfl rfl rfl rfl ti54 ?_; clear hf hs; intro a w b19 hs hf
  have hs : St [] W w [.row A6 n7 c8 112 4 ((recs GPlace.cells) r4.1.Places), .row A10 n11 c12 2 1 (ints r4.2.1.Starts), .row A14 n15 c16 2 1 (ints r4.2.2), .blk b18 52 [.int .i64 0, .slice none 0 0], .blk b19 54 [.int .i64 0, .slice none 0 0]] := hs
  refine sStore (i := 3) (us := [.int .i64 r4.1.Events, .slice A6 n7 c8]) hf hs rfl rfl rfl rfl rfl rfl ti52 rfl rfl rfl (Nat.le_of_ble_eq_true rfl) rfl ?_; clear hs; intro w hs
  have hs : St [] W w [.row A6 n7 c8 112 4 ((recs GPlace.cells) r4.1.Places), .row A10 n11 c12 2 1 (ints r4.2.1.Starts), .row A14 n15 c16 2 1 (ints r4.2.2), .blk b18 52 [.int .i64 r4.1.Events, .slice A6 n7 c8], .blk b19 54 [.int .i64 0, .slice none 0 0]] := hs
  refine sStore (i := 4) (us := [.int .i64 r4.2.1.Period, .slice A10 n11 c12]) hf hs rfl rfl rfl rfl rfl rfl ti54 rfl rfl rfl (Nat.le_of_ble_eq_true rfl) rfl ?_; clear hs; intro w hs
  have hs : St [] W w [.row A6 n7 c8 112 4 ((recs GPlace.cells) r4.1.Places), .row A10 n11 c12 2 1 (ints r4.2.1.Starts), .row A14 n15 c16 2 1 (ints r4.2.2), .blk b18 52 [.int .i64 r4.1.Events, .slice A6 n7 c8], .blk b19 54 [.int .i64 r4.2.1.Period, .slice A10 n11 c12]] := hs
  refine sY hf hs rfl rfl rfl (Y_assign rfl rfl) ?_; clear hf; intro a hf
  refine wpO_nil <| wpL_seq <| wpL_region ?_
  refine sY hf hs rfl rfl rfl (Y_load_blkS rfl rfl (i := 3) rfl ag52 ti52 rfl) ?_; clear hf; intro a hf
  refine sY hf hs rfl rfl rfl (Y_load_blkS rfl rfl (i := 4) rfl ag54 ti54 rfl) ?_; clear hf; intro a hf
  refine sY hf hs rfl rfl rfl (Y_move rfl rfl) ?_; clear hf; intro a hf
  obtain ⟨r20, hc21, hm⟩ := bind_some hm
  refine sCall hf rfl rfl rfl rfl (cap := []) rfl rfl en33 (impl_SettledAfter_ok F (GEventGraph.mk r4.1.Events r4.1.Places) A6 n7 c8 hn9 (GTimetable.mk r4.2.1.Period r4.2.1.Starts) A10 n11 c12 hn13 r4.2.2 A14 n15 c16 hn17 _ _ hc21 (hs.rd (i := 0) rfl) (hs.rd (i := 1) rfl) (hs.rd (i := 2) rfl)) ?_; clear hf
  rintro _ w ⟨rfl, hs1⟩ a hf
  have hs : St [] W w [.row A6 n7 c8 112 4 ((recs GPlace.cells) r4.1.Places), .row A10 n11 c12 2 1 (ints r4.2.1.Starts), .row A14 n15 c16 2 1 (ints r4.2.2), .blk b18 52 [.int .i64 r4.1.Events, .slice A6 n7 c8], .blk b19 54 [.int .i64 r4.2.1.Period, .slice A10 n11 c12]] := hs.ext hs1.below
  clear hs1
  refine sY hf hs rfl rfl rfl (Y_move rfl rfl) ?_; clear hf; intro a hf
  refine sY hf hs rfl rfl rfl (Y_extract rfl rfl rfl) ?_; clear hf; intro a hf
  refine sY hf hs rfl rfl rfl (Y_extract rfl rfl rfl) ?_; clear hf; intro a hf
  refine sY hf hs rfl rfl rfl (Y_assign rfl rfl) ?_; clear hf; intro a hf
  refine sY hf hs rfl rfl rfl (Y_assign rfl rfl) ?_; clear hf; intro a hf
  refine wpO_nil <| wpL_seq <| wpL_region ?_
  refine sY hf hs rfl rfl rfl (Y_load_blkS rfl rfl (i := 3) rfl ag52 ti52 rfl) ?_; clear hf; intro a hf
  refine sY hf hs rfl rfl rfl (Y_load_blkS rfl rfl (i := 4) rfl ag54 ti54 rfl) ?_; clear hf; intro a hf
  refine sY hf hs rfl rfl rfl (Y_move rfl rfl) ?_; clear hf; intro a hf
  obtain ⟨r22, hc23, hm⟩ := bind_some hm
  refine sCall hf rfl rfl rfl rfl (cap := []) rfl rfl en34 (spec_SettledAfter_ok F (GEventGraph.mk r4.1.Events r4.1.Places) A6 n7 c8 hn9 (GTimetable.mk r4.2.1.Period r4.2.1.Starts) A10 n11 c12 hn13 r4.2.2 A14 n15 c16 hn17 _ _ hc23 (hs.rd (i := 0) rfl) (hs.rd (i := 1) rfl) (hs.rd (i := 2) rfl)) ?_; clear hf
  rintro _ w ⟨rfl, hs1⟩ a hf
  have hs : St [] W w [.row A6 n7 c8 112 4 ((recs GPlace.cells) r4.1.Places), .row A10 n11 c12 2 1 (ints r4.2.1.Starts), .row A14 n15 c16 2 1 (ints r4.2.2), .blk b18 52 [.int .i64 r4.1.Events, .slice A6 n7 c8], .blk b19 54 [.int .i64 r4.2.1.Period, .slice A10 n11 c12]] := hs.ext hs1.below
  clear hs1
  refine sY hf hs rfl rfl rfl (Y_move rfl rfl) ?_; clear hf; intro a hf
  refine sY hf hs rfl rfl rfl (Y_extract rfl rfl rfl) ?_; clear hf; intro a hf
  refine sY hf hs rfl rfl rfl (Y_extract rfl rfl rfl) ?_; clear hf; intro a hf
  refine sY hf hs rfl rfl rfl (Y_assign rfl rfl) ?_; clear hf; intro a hf
  refine sY hf hs rfl rfl rfl (Y_assign rfl rfl) ?_; clear hf; intro a hf
  refine wpO_nil <| wpL_seq <| wpL_region ?_
  refine sY hf hs rfl rfl rfl (Y_load_blkS rfl rfl (i := 3) rfl ag52 ti52 rfl) ?_; clear hf; intro a hf
  refine sY hf hs rfl rfl rfl (Y_load_blkS rfl rfl (i := 4) rfl ag54 ti54 rfl) ?_; clear hf; intro a hf
  refine sY hf hs rfl rfl rfl (Y_move rfl rfl) ?_; clear hf; intro a hf
  obtain ⟨r24, hc25, hm⟩ := bind_some hm
  refine sCall hf rfl rfl rfl rfl (cap := []) rfl rfl en35 (impl_TotalDelay_ok F (GEventGraph.mk r4.1.Events r4.1.Places) A6 n7 c8 hn9 (GTimetable.mk r4.2.1.Period r4.2.1.Starts) A10 n11 c12 hn13 r4.2.2 A14 n15 c16 hn17 _ _ hc25 (hs.rd (i := 0) rfl) (hs.rd (i := 1) rfl) (hs.rd (i := 2) rfl)) ?_; clear hf
  rintro _ w ⟨rfl, hs1⟩ a hf
  have hs : St [] W w [.row A6 n7 c8 112 4 ((recs GPlace.cells) r4.1.Places), .row A10 n11 c12 2 1 (ints r4.2.1.Starts), .row A14 n15 c16 2 1 (ints r4.2.2), .blk b18 52 [.int .i64 r4.1.Events, .slice A6 n7 c8], .blk b19 54 [.int .i64 r4.2.1.Period, .slice A10 n11 c12]] := hs.ext hs1.below
  clear hs1
  refine sY hf hs rfl rfl rfl (Y_move rfl rfl) ?_; clear hf; intro a hf
  refine sY hf hs rfl rfl rfl (Y_extract rfl rfl rfl) ?_; clear hf; intro a hf
  refine sY hf hs rfl rfl rfl (Y_extract rfl rfl rfl) ?_; clear hf; intro a hf
  refine sY hf hs rfl rfl rfl (Y_assign rfl rfl) ?_; clear hf; intro a hf
  refine sY hf hs rfl rfl rfl (Y_assign rfl rfl) ?_; clear hf; intro a hf
  refine wpO_nil <| wpL_seq <| wpL_region ?_
  refine sY hf hs rfl rfl rfl (Y_load_blkS rfl rfl (i := 3) rfl ag52 ti52 rfl) ?_; clear hf; intro a hf
  refine sY hf hs rfl rfl rfl (Y_load_blkS rfl rfl (i := 4) rfl ag54 ti54 rfl) ?_; clear hf; intro a hf
  refine sY hf hs rfl rfl rfl (Y_move rfl rfl) ?_; clear hf; intro a hf
  obtain ⟨r26, hc27, hm⟩ := bind_some hm
  refine sCall hf rfl rfl rfl rfl (cap := []) rfl rfl en36 (spec_TotalDelay_ok F (GEventGraph.mk r4.1.Events r4.1.Places) A6 n7 c8 hn9 (GTimetable.mk r4.2.1.Period r4.2.1.Starts) A10 n11 c12 hn13 r4.2.2 A14 n15 c16 hn17 _ _ hc27 (hs.rd (i := 0) rfl) (hs.rd (i := 1) rfl) (hs.rd (i := 2) rfl)) ?_; clear hf
  rintro _ w ⟨rfl, hs1⟩ a hf
  have hs : St [] W w [.row A6 n7 c8 112 4 ((recs GPlace.cells) r4.1.Places), .row A10 n11 c12 2 1 (ints r4.2.1.Starts), .row A14 n15 c16 2 1 (ints r4.2.2), .blk b18 52 [.int .i64 r4.1.Events, .slice A6 n7 c8], .blk b19 54 [.int .i64 r4.2.1.Period, .slice A10 n11 c12]] := hs.ext hs1.below
  clear hs1
  refine sY hf hs rfl rfl rfl (Y_move rfl rfl) ?_; clear hf; intro a hf
  refine sY hf hs rfl rfl rfl (Y_extract rfl rfl rfl) ?_; clear hf; intro a hf
  refine sY hf hs rfl rfl rfl (Y_extract rfl rfl rfl) ?_; clear hf; intro a hf
  refine sY hf hs rfl rfl rfl (Y_assign rfl rfl) ?_; clear hf; intro a hf
  refine sY hf hs rfl rfl rfl (Y_assign rfl rfl) ?_; clear hf; intro a hf
  refine wpO_nil <| wpL_seq <| wpL_seq ?_
  obtain ⟨r33, hj34, hm⟩ := bind_some hm
  refine wpL_cut (fun a w => ∃ b32 : Bool, b32 = r33 ∧ Fr a 129 [(3, .pointer (some ⟨b18, 0, none⟩)), (4, .pointer (some ⟨b19, 0, none⟩)), (5, .slice A14 n15 c16), (6, .int .i64 r20.1), (7, .int .i64 r20.2), (10, .int .i64 r24.1), (76, .bool b32)] ∧ St [] W w [.blk b18 52 [.int .i64 r4.1.Events, .slice A6 n7 c8], .row A6 n7 c8 112 4 ((recs GPlace.cells) r4.1.Places), .blk b19 54 [.int .i64 r4.2.1.Period, .slice A10 n11 c12], .row A10 n11 c12 2 1 (ints r4.2.1.Starts), .row A14 n15 c16 2 1 (ints r4.2.2)]) ?_ ?_
  ·refine wpL_region ?_
   refine sY hf hs rfl rfl rfl (Y_move rfl rfl) ?_; clear hf; intro a hf
   refine sY hf hs rfl rfl rfl (Y_move rfl rfl) ?_; clear hf; intro a hf
   refine sY hf hs rfl rfl rfl (Y_neq rfl rfl rfl) ?_; clear hf; intro a hf
   refine sY hf hs rfl rfl rfl (Y_move rfl rfl) ?_; clear hf; intro a hf
   refine bsplit (r20.2 != r22.2) (fun hb35 => ?_) (fun hb35 => ?_)
   ·have hj34 := bif_t hj34 hb35
    refine sNo hf rfl rfl rfl (congrArg (fun b => some (Value.bool b)) hb35) rfl rfl rfl ?_; clear hf; intro a hf
    refine sNo hf rfl rfl rfl (congrArg (fun b => some (Value.bool b)) hb35) rfl rfl rfl ?_; clear hf; intro a hf
    refine sNo hf rfl rfl rfl (congrArg (fun b => some (Value.bool b)) hb35) rfl rfl rfl ?_; clear hf; intro a hf
    refine sY hf hs rfl rfl rfl (Y_pickT rfl (congrArg (fun b => some (Value.bool b)) hb35) rfl) ?_; clear hf; intro a hf
    refine sY hf hs rfl rfl rfl (Y_move rfl rfl) ?_; clear hf; intro a hf
    refine sNo hf rfl rfl rfl rfl rfl rfl rfl ?_; clear hf; intro a hf
    refine sNo hf rfl rfl rfl rfl rfl rfl rfl ?_; clear hf; intro a hf
    refine sNo hf rfl rfl rfl rfl rfl rfl rfl ?_; clear hf; intro a hf
    refine sY hf hs rfl rfl rfl (Y_pickT rfl rfl rfl) ?_; clear hf; intro a hf
    refine sY hf hs rfl rfl rfl (Y_move rfl rfl) ?_; clear hf; intro a hf
    refine sNo hf rfl rfl rfl rfl rfl rfl rfl ?_; clear hf; intro a hf
    refine sNo hf rfl rfl rfl rfl rfl rfl rfl ?_; clear hf; intro a hf
    refine sNo hf rfl rfl rfl rfl rfl rfl rfl ?_; clear hf; intro a hf
    refine sY hf hs rfl rfl rfl (Y_pickT rfl rfl rfl) ?_; clear hf; intro a hf
    refine sY hf hs rfl rfl rfl (Y_move rfl rfl) ?_; clear hf; intro a hf
    refine sNo hf rfl rfl rfl rfl rfl rfl rfl ?_; clear hf; intro a hf
    refine sNo hf rfl rfl rfl rfl rfl rfl rfl ?_; clear hf; intro a hf
    refine sNo hf rfl rfl rfl rfl rfl rfl rfl ?_; clear hf; intro a hf
    refine sY hf hs rfl rfl rfl (Y_pickT rfl rfl rfl) ?_; clear hf; intro a hf
    refine wpO_nil ?_
    refine wpL_nil (then_normal ?_)
    exact ⟨true, Option.some.inj hj34, (FrD.pick (FrD.pick (FrD.pick (FrD.pick (FrD.pick (FrD.pick (FrD.pick hf.none hf rfl) hf rfl) hf rfl) hf rfl) hf rfl) hf rfl) hf rfl), hs.sel [3, 0, 4, 1, 2] (by decide)⟩
   ·have hj34 := bif_f hj34 hb35
    refine sYg hf hs rfl rfl rfl (congrArg (fun b => some (Value.bool b)) hb35) rfl rfl rfl (Y_move rfl rfl) ?_; clear hf; intro a hf
    refine sYg hf hs rfl rfl rfl (congrArg (fun b => some (Value.bool b)) hb35) rfl rfl rfl (Y_move rfl rfl) ?_; clear hf; intro a hf
    refine sYg hf hs rfl rfl rfl (congrArg (fun b => some (Value.bool b)) hb35) rfl rfl rfl (Y_neq rfl rfl rfl) ?_; clear hf; intro a hf
    refine sY hf hs rfl rfl rfl (Y_pickF rfl (congrArg (fun b => some (Value.bool b)) hb35) rfl) ?_; clear hf; intro a hf
    refine sY hf hs rfl rfl rfl (Y_move rfl rfl) ?_; clear hf; intro a hf
    refine bsplit (r20.1 != r22.1) (fun hb36 => ?_) (fun hb36 => ?_)
    ·have hj34 := bif_t hj34 hb36
     refine sNo hf rfl rfl rfl (congrArg (fun b => some (Value.bool b)) hb36) rfl rfl rfl ?_; clear hf; intro a hf
     refine sNo hf rfl rfl rfl (congrArg (fun b => some (Value.bool b)) hb36) rfl rfl rfl ?_; clear hf; intro a hf
     refine sNo hf rfl rfl rfl (congrArg (fun b => some (Value.bool b)) hb36) rfl rfl rfl ?_; clear hf; intro a hf
     refine sY hf hs rfl rfl rfl (Y_pickT rfl (congrArg (fun b => some (Value.bool b)) hb36) rfl) ?_; clear hf; intro a hf
     refine sY hf hs rfl rfl rfl (Y_move rfl rfl) ?_; clear hf; intro a hf
     refine sNo hf rfl rfl rfl rfl rfl rfl rfl ?_; clear hf; intro a hf
     refine sNo hf rfl rfl rfl rfl rfl rfl rfl ?_; clear hf; intro a hf
     refine sNo hf rfl rfl rfl rfl rfl rfl rfl ?_; clear hf; intro a hf
     refine sY hf hs rfl rfl rfl (Y_pickT rfl rfl rfl) ?_; clear hf; intro a hf
     refine sY hf hs rfl rfl rfl (Y_move rfl rfl) ?_; clear hf; intro a hf
     refine sNo hf rfl rfl rfl rfl rfl rfl rfl ?_; clear hf; intro a hf
     refine sNo hf rfl rfl rfl rfl rfl rfl rfl ?_; clear hf; intro a hf
     refine sNo hf rfl rfl rfl rfl rfl rfl rfl ?_; clear hf; intro a hf
     refine sY hf hs rfl rfl rfl (Y_pickT rfl rfl rfl) ?_; clear hf; intro a hf
     refine wpO_nil ?_
     refine wpL_nil (then_normal ?_)
     exact ⟨true, Option.some.inj hj34, (FrD.pick (FrD.pick (FrD.pick (FrD.pick (FrD.pick (FrD.pick (FrD.pick hf.none hf rfl) hf rfl) hf rfl) hf rfl) hf rfl) hf rfl) hf rfl), hs.sel [3, 0, 4, 1, 2] (by decide)⟩
    ·have hj34 := bif_f hj34 hb36
     refine sYg hf hs rfl rfl rfl (congrArg (fun b => some (Value.bool b)) hb36) rfl rfl rfl (Y_move rfl rfl) ?_; clear hf; intro a hf
     refine sYg hf hs rfl rfl rfl (congrArg (fun b => some (Value.bool b)) hb36) rfl rfl rfl (Y_move rfl rfl) ?_; clear hf; intro a hf
     refine sYg hf hs rfl rfl rfl (congrArg (fun b => some (Value.bool b)) hb36) rfl rfl rfl (Y_neq rfl rfl rfl) ?_; clear hf; intro a hf
     refine sY hf hs rfl rfl rfl (Y_pickF rfl (congrArg (fun b => some (Value.bool b)) hb36) rfl) ?_; clear hf; intro a hf
     refine sY hf hs rfl rfl rfl (Y_move rfl rfl) ?_; clear hf; intro a hf
     refine bsplit (r24.2 != r26.2) (fun hb37 => ?_) (fun hb37 => ?_)
     ·have hj34 := bif_t hj34 hb37
      refine sNo hf rfl rfl rfl (congrArg (fun b => some (Value.bool b)) hb37) rfl rfl rfl ?_; clear hf; intro a hf
      refine sNo hf rfl rfl rfl (congrArg (fun b => some (Value.bool b)) hb37) rfl rfl rfl ?_; clear hf; intro a hf
      refine sNo hf rfl rfl rfl (congrArg (fun b => some (Value.bool b)) hb37) rfl rfl rfl ?_; clear hf; intro a hf
      refine sY hf hs rfl rfl rfl (Y_pickT rfl (congrArg (fun b => some (Value.bool b)) hb37) rfl) ?_; clear hf; intro a hf
      refine sY hf hs rfl rfl rfl (Y_move rfl rfl) ?_; clear hf; intro a hf
      refine sNo hf rfl rfl rfl rfl rfl rfl rfl ?_; clear hf; intro a hf
      refine sNo hf rfl rfl rfl rfl rfl rfl rfl ?_; clear hf; intro a hf
      refine sNo hf rfl rfl rfl rfl rfl rfl rfl ?_; clear hf; intro a hf
      refine sY hf hs rfl rfl rfl (Y_pickT rfl rfl rfl) ?_; clear hf; intro a hf
      refine wpO_nil ?_
      refine wpL_nil (then_normal ?_)
      exact ⟨true, Option.some.inj hj34, (FrD.pick (FrD.pick (FrD.pick (FrD.pick (FrD.pick (FrD.pick (FrD.pick hf.none hf rfl) hf rfl) hf rfl) hf rfl) hf rfl) hf rfl) hf rfl), hs.sel [3, 0, 4, 1, 2] (by decide)⟩
     ·have hj34 := bif_f hj34 hb37
      refine sYg hf hs rfl rfl rfl (congrArg (fun b => some (Value.bool b)) hb37) rfl rfl rfl (Y_move rfl rfl) ?_; clear hf; intro a hf
      refine sYg hf hs rfl rfl rfl (congrArg (fun b => some (Value.bool b)) hb37) rfl rfl rfl (Y_move rfl rfl) ?_; clear hf; intro a hf
      refine sYg hf hs rfl rfl rfl (congrArg (fun b => some (Value.bool b)) hb37) rfl rfl rfl (Y_neq rfl rfl rfl) ?_; clear hf; intro a hf
      refine sY hf hs rfl rfl rfl (Y_pickF rfl (congrArg (fun b => some (Value.bool b)) hb37) rfl) ?_; clear hf; intro a hf
      refine sY hf hs rfl rfl rfl (Y_move rfl rfl) ?_; clear hf; intro a hf
      refine bsplit (r24.1 != r26.1) (fun hb38 => ?_) (fun hb38 => ?_)
      ·have hj34 := bif_t hj34 hb38
       refine sNo hf rfl rfl rfl (congrArg (fun b => some (Value.bool b)) hb38) rfl rfl rfl ?_; clear hf; intro a hf
       refine sNo hf rfl rfl rfl (congrArg (fun b => some (Value.bool b)) hb38) rfl rfl rfl ?_; clear hf; intro a hf
       refine sNo hf rfl rfl rfl (congrArg (fun b => some (Value.bool b)) hb38) rfl rfl rfl ?_; clear hf; intro a hf
       refine sY hf hs rfl rfl rfl (Y_pickT rfl (congrArg (fun b => some (Value.bool b)) hb38) rfl) ?_; clear hf; intro a hf
       refine wpO_nil ?_
       refine wpL_nil (then_normal ?_)
       exact ⟨true, Option.some.inj hj34, (FrD.pick (FrD.pick (FrD.pick (FrD.pick (FrD.pick (FrD.pick (FrD.pick hf.none hf rfl) hf rfl) hf rfl) hf rfl) hf rfl) hf rfl) hf rfl), hs.sel [3, 0, 4, 1, 2] (by decide)⟩
      ·have hj34 := bif_f hj34 hb38
       refine sYg hf hs rfl rfl rfl (congrArg (fun b => some (Value.bool b)) hb38) rfl rfl rfl (Y_move rfl rfl) ?_; clear hf; intro a hf
       refine sYg hf hs rfl rfl rfl (congrArg (fun b => some (Value.bool b)) hb38) rfl rfl rfl (Y_move rfl rfl) ?_; clear hf; intro a hf
       refine sYg hf hs rfl rfl rfl (congrArg (fun b => some (Value.bool b)) hb38) rfl rfl rfl (Y_neq rfl rfl rfl) ?_; clear hf; intro a hf
       refine sY hf hs rfl rfl rfl (Y_pickF rfl (congrArg (fun b => some (Value.bool b)) hb38) rfl) ?_; clear hf; intro a hf
       refine wpO_nil ?_
       refine wpL_nil (then_normal ?_)
       exact ⟨(r24.2 != r20.2), Option.some.inj hj34, (FrD.pick (FrD.pick (FrD.pick (FrD.pick (FrD.pick (FrD.pick (FrD.pick hf.none hf rfl) hf rfl) hf rfl) hf rfl) hf rfl) hf rfl) hf rfl), hs.sel [3, 0, 4, 1, 2] (by decide)⟩
  ·rintro a w ⟨b32, hr_, hf, hs⟩
   subst hr_
   try dsimp only at hm
   refine wpL_cond hf rfl (fun hb39 => ?_) (fun hb39 => ?_)
   ·have hm := bif_t hm hb39
    refine wpL_seq <| wpL_region ?_
    refine sY hf hs rfl rfl rfl (Y_assign rfl rfl) ?_; clear hf; intro a hf
    refine wpO_nil ?_
    obtain rfl := Option.some.inj hm
    refine wpL_ret (ret_tmp rfl hf rfl ?_)
    exact ⟨_, rfl, rfl, hs.sel [] (by decide)⟩
   ·have hm := bif_f hm hb39
    refine wpL_skip <| wpL_seq <| wpL_seq <| wpL_region ?_
    refine sY hf hs rfl rfl rfl (Y_move rfl rfl) ?_; clear hf; intro a hf
    refine sY hf hs rfl rfl rfl (Y_neq rfl rfl rfl) ?_; clear hf; intro a hf
    refine wpO_nil ?_
    refine wpL_cond hf rfl (fun hb40 => ?_) (fun hb40 => ?_)
    ·have hm := bif_t hm hb40
     refine wpL_seq <| wpL_region ?_
     refine sY hf hs rfl rfl rfl (Y_assign rfl rfl) ?_; clear hf; intro a hf
     refine wpO_nil ?_
     obtain rfl := Option.some.inj hm
     refine wpL_ret (ret_tmp rfl hf rfl ?_)
     exact ⟨_, rfl, rfl, hs.sel [] (by decide)⟩
    ·have hm := bif_f hm hb40
     refine wpL_skip <| wpL_seq <| wpL_region ?_
     refine sY hf hs rfl rfl rfl (Y_load_blkS rfl rfl (i := 0) rfl ag52 ti52 rfl) ?_; clear hf; intro a hf
     refine sY hf hs rfl rfl rfl (Y_load_blkS rfl rfl (i := 2) rfl ag54 ti54 rfl) ?_; clear hf; intro a hf
     refine sY hf hs rfl rfl rfl (Y_move rfl rfl) ?_; clear hf; intro a hf
     obtain ⟨r41, hc42, hm⟩ := bind_some hm
     refine sCall hf rfl rfl rfl rfl (cap := []) rfl rfl en37 (impl_DelayTable_ok F (GEventGraph.mk r4.1.Events r4.1.Places) A6 n7 c8 hn9 (GTimetable.mk r4.2.1.Period r4.2.1.Starts) A10 n11 c12 hn13 r4.2.2 A14 n15 c16 hn17 50 _ _ hc42 (hs.rd (i := 1) rfl) (hs.rd (i := 3) rfl) (hs.rd (i := 4) rfl)) ?_; clear hf
     rintro _ w ⟨A43, n44, c45, vs47, rfl, hn46, hs1⟩ a hf
     have hs : St [] W w [.blk b18 52 [.int .i64 r4.1.Events, .slice A6 n7 c8], .row A6 n7 c8 112 4 ((recs GPlace.cells) r4.1.Places), .blk b19 54 [.int .i64 r4.2.1.Period, .slice A10 n11 c12], .row A10 n11 c12 2 1 (ints r4.2.1.Starts), .row A14 n15 c16 2 1 (ints r4.2.2), .mat A43 n44 c45 23 2 vs47 r41.1] := hs.join hs1
     clear hs1
     refine sY hf hs rfl rfl rfl (Y_move rfl rfl) ?_; clear hf; intro a hf
     refine sY hf hs rfl rfl rfl (Y_extract rfl rfl rfl) ?_; clear hf; intro a hf
     refine sY hf hs rfl rfl rfl (Y_extract rfl rfl rfl) ?_; clear hf; intro a hf
     refine sY hf hs rfl rfl rfl (Y_assign rfl rfl) ?_; clear hf; intro a hf
     refine sY hf hs rfl rfl rfl (Y_assign rfl rfl) ?_; clear hf; intro a hf
     refine wpO_nil <| wpL_seq <| wpL_seq <| wpL_region ?_
     refine sY hf hs rfl rfl rfl (Y_move rfl rfl) ?_; clear hf; intro a hf
     refine sY hf hs rfl rfl rfl (Y_neq rfl rfl rfl) ?_; clear hf; intro a hf
     refine wpO_nil ?_
     refine wpL_cond hf rfl (fun hb48 => ?_) (fun hb48 => ?_)
     ·have hm := bif_t hm hb48
      refine wpL_seq <| wpL_region ?_
      refine sY hf hs rfl rfl rfl (Y_assign rfl rfl) ?_; clear hf; intro a hf
      refine wpO_nil ?_
      obtain rfl := Option.some.inj hm
      refine wpL_ret (ret_tmp rfl hf rfl ?_)
      exact ⟨_, rfl, rfl, hs.sel [] (by decide)⟩
     ·have hm := bif_f hm hb48
      refine wpL_skip <| wpL_seq <| wpL_region ?_
      refine sY hf hs rfl rfl rfl (Y_assign rfl rfl) ?_; clear hf; intro a hf
      refine wpO_nil <| wpL_seq <| wpL_seq <| wpL_region ?_
      refine sY hf hs rfl rfl rfl (Y_assign rfl rfl) ?_; clear hf; intro a hf
      refine wpO_nil ?_
      obtain ⟨r240, hl241, hm⟩ := bind_some hm
      refine wpL_block (fun a w => ∃ x239 : Int, Sum.inr x239 = r240 ∧ Fr a 129 [(10, .int .i64 r24.1), (16, .int .i64 x239)] ∧ St [] W w []) ?_ ?_
      ·refine wpL_loop (fun n a w => ∃ x175 : Int, ∃ x176 : Int, laws_FnSettled_L1 F r20 r41 n x175 x176 = some r240 ∧ Fr a 129 [(6, .int .i64 r20.1), (10, .int .i64 r24.1), (14, .slice A43 n44 c45), (16, .int .i64 x175), (17, .int .i64 x176)] ∧ St [] W w [.mat A43 n44 c45 23 2 vs47 r41.1]) F ?_ ?_ ?_
       ·exact ⟨0, 0, hl241, (FrD.pick (FrD.pick (FrD.pick (FrD.pick (FrD.pick hf.none hf rfl) hf rfl) hf rfl) hf rfl) hf rfl), hs.sel [5] (by decide)⟩
       ·rintro a w ⟨x175, x176, h0_, -, -⟩; simp [laws_FnSettled_L1] at h0_
       ·rintro n243 a w ⟨x175, x176, hm242, hf, hs⟩
        rw [laws_FnSettled_L1] at hm242
        refine wpL_seq <| wpL_seq <| wpL_region ?_
        refine sY hf hs rfl rfl rfl (Y_move rfl rfl) ?_; clear hf; intro a hf
        refine sY hf hs rfl rfl rfl (Y_move rfl rfl) ?_; clear hf; intro a hf
        refine sY hf hs rfl rfl rfl (Y_lenH rfl rfl el59 hn46) ?_; clear hf; intro a hf
        refine sY hf hs rfl rfl rfl (Y_lss rfl rfl rfl) ?_; clear hf; intro a hf
        refine wpO_nil ?_
        refine wpL_cond hf rfl (fun hb244 => ?_) (fun hb244 => ?_)
        ·have hm242 := bif_t hm242 hb244
         refine wpL_skip <| wpL_seq <| wpL_block0 <| wpL_seq <| wpL_region ?_
         refine sY hf hs rfl rfl rfl (Y_move rfl rfl) ?_; clear hf; intro a hf
         refine sY hf hs rfl rfl rfl (Y_move rfl rfl) ?_; clear hf; intro a hf
         refine sY hf hs rfl rfl rfl (Y_move rfl rfl) ?_; clear hf; intro a hf
         obtain ⟨q245, hi246, hm242⟩ := bind_some hm242
         obtain ⟨hi246a, hi246b, hi246q⟩ := idx_some hi246
         obtain ⟨A247, c248, hv249⟩ := hs.matRow (i := 0) rfl hi246q
         refine sY hf hs rfl rfl rfl (Y_index rfl rfl rfl el59 ti23 (Rd.isAt (hs.rdV (i := 0) rfl) hv249) hi246a (ltn hn46 hi246b)) ?_; clear hf; intro a hf
         refine sY hf hs rfl rfl rfl (Y_load_rd rfl rfl (fun w hs => hs.rdV (i := 0) rfl) (at1 hv249) ag23) ?_; clear hf; intro a hf
         obtain ⟨r250, hc251, hm242⟩ := bind_some hm242
         refine sCall hf rfl rfl rfl rfl (cap := []) rfl rfl en38 (laws_sum_ok F q245 A247 q245.length c248 rfl _ _ hc251 (hs.rdRow (i := 0) rfl ⟨hi246q, hv249⟩)) ?_; clear hf
         rintro _ w ⟨rfl, hs1⟩ a hf
         have hs : St [] W w [.mat A43 n44 c45 23 2 vs47 r41.1] := hs.ext hs1.below
         clear hs1
         refine sY hf hs rfl rfl rfl (Y_add rfl rfl rfl) ?_; clear hf; intro a hf
         refine sY hf hs rfl rfl rfl (Y_assign rfl rfl) ?_; clear hf; intro a hf
         refine wpO_nil <| wpL_seq ?_
         obtain ⟨r278, hj279, hm242⟩ := bind_some hm242
         refine wpL_cut (fun a w => ∃ b277 : Bool, b277 = r278 ∧ Fr a 129 [(6, .int .i64 r20.1), (10, .int .i64 r24.1), (14, .slice A43 n44 c45), (16, .int .i64 (IntKind.i64.wrap (x175 + r250))), (17, .int .i64 x176), (125, .bool b277)] ∧ St [] W w [.mat A43 n44 c45 23 2 vs47 r41.1]) ?_ ?_
         ·refine wpL_region ?_
          refine sY hf hs rfl rfl rfl (Y_move rfl rfl) ?_; clear hf; intro a hf
          refine sY hf hs rfl rfl rfl (Y_move rfl rfl) ?_; clear hf; intro a hf
          refine sY hf hs rfl rfl rfl (Y_geq rfl rfl rfl) ?_; clear hf; intro a hf
          refine sY hf hs rfl rfl rfl (Y_move rfl rfl) ?_; clear hf; intro a hf
          refine bsplit (decide (r20.1 ≤ x176)) (fun hb280 => ?_) (fun hb280 => ?_)
          ·have hj279 := bif_t hj279 hb280
           refine sYg hf hs rfl rfl rfl (congrArg (fun b => some (Value.bool b)) hb280) rfl rfl rfl (Y_move rfl rfl) ?_; clear hf; intro a hf
           refine sYg hf hs rfl rfl rfl (congrArg (fun b => some (Value.bool b)) hb280) rfl rfl rfl (Y_move rfl rfl) ?_; clear hf; intro a hf
           obtain ⟨q281, hi282, hj279⟩ := bind_some hj279
           obtain ⟨hi282a, hi282b, hi282q⟩ := idx_some hi282
           obtain ⟨A283, c284, hv285⟩ := hs.matRow (i := 0) rfl hi282q
           refine sYg hf hs rfl rfl rfl (congrArg (fun b => some (Value.bool b)) hb280) rfl rfl rfl (Y_index rfl rfl rfl el59 ti23 (Rd.isAt (hs.rdV (i := 0) rfl) hv285) hi282a (ltn hn46 hi282b)) ?_; clear hf; intro a hf
           refine sYg hf hs rfl rfl rfl (congrArg (fun b => some (Value.bool b)) hb280) rfl rfl rfl (Y_load_rd rfl rfl (fun w hs => hs.rdV (i := 0) rfl) (at1 hv285) ag23) ?_; clear hf; intro a hf
           obtain ⟨r286, hc287, hj279⟩ := bind_some hj279
           refine sCallg hf rfl rfl rfl (congrArg (fun b => some (Value.bool b)) hb280) rfl rfl rfl rfl (cap := []) rfl rfl en38 (laws_sum_ok F q281 A283 q281.length c284 rfl _ _ hc287 (hs.rdRow (i := 0) rfl ⟨hi282q, hv285⟩)) ?_; clear hf
           rintro _ w ⟨rfl, hs1⟩ a hf
           have hs : St [] W w [.mat A43 n44 c45 23 2 vs47 r41.1] := hs.ext hs1.below
           clear hs1
           refine sYg hf hs rfl rfl rfl (congrArg (fun b => some (Value.bool b)) hb280) rfl rfl rfl (Y_neq rfl rfl rfl) ?_; clear hf; intro a hf
           refine sY hf hs rfl rfl rfl (Y_pickT rfl (congrArg (fun b => some (Value.bool b)) hb280) rfl) ?_; clear hf; intro a hf
           refine sY hf hs rfl rfl rfl (Y_move rfl rfl) ?_; clear hf; intro a hf
           refine bsplit (r286 != 0) (fun hb288 => ?_) (fun hb288 => ?_)
           ·have hj279 := bif_t hj279 hb288
            refine sNo hf rfl rfl rfl (congrArg (fun b => some (Value.bool b)) hb288) rfl rfl rfl ?_; clear hf; intro a hf
            refine sNo hf rfl rfl rfl (congrArg (fun b => some (Value.bool b)) hb288) rfl rfl rfl ?_; clear hf; intro a hf
            refine sNo hf rfl rfl rfl (congrArg (fun b => some (Value.bool b)) hb288) rfl rfl rfl ?_; clear hf; intro a hf
            refine sNo hf rfl rfl rfl (congrArg (fun b => some (Value.bool b)) hb288) rfl rfl rfl ?_; clear hf; intro a hf
            refine sNo hf rfl rfl rfl (congrArg (fun b => some (Value.bool b)) hb288) rfl rfl rfl ?_; clear hf; intro a hf
            refine sNoU hf rfl rfl rfl rfl rfl rfl rfl ?_; clear hf; intro a hf
            refine sNoU hf rfl rfl rfl rfl rfl rfl rfl ?_; clear hf; intro a hf
            refine sNoU hf rfl rfl rfl rfl rfl rfl rfl ?_; clear hf; intro a hf
            refine sNoU hf rfl rfl rfl rfl rfl rfl rfl ?_; clear hf; intro a hf
            refine sNoU hf rfl rfl rfl rfl rfl rfl rfl ?_; clear hf; intro a hf
            refine sNoU hf rfl rfl rfl rfl rfl rfl rfl ?_; clear hf; intro a hf
            refine sNo hf rfl rfl rfl (congrArg (fun b => some (Value.bool b)) hb288) rfl rfl rfl ?_; clear hf; intro a hf
            refine sY hf hs rfl rfl rfl (Y_pickT rfl (congrArg (fun b => some (Value.bool b)) hb288) rfl) ?_; clear hf; intro a hf
            refine wpO_nil ?_
            refine wpL_nil (then_normal ?_)
            exact ⟨true, Option.some.inj hj279, (FrD.pick (FrD.pick (FrD.pick (FrD.pick (FrD.pick (FrD.pick hf.none hf rfl) hf rfl) hf rfl) hf rfl) hf rfl) hf rfl), hs⟩
           ·have hj279 := bif_f hj279 hb288
            refine sYg hf hs rfl rfl rfl (congrArg (fun b => some (Value.bool b)) hb288) rfl rfl rfl (Y_move rfl rfl) ?_; clear hf; intro a hf
            refine sYg hf hs rfl rfl rfl (congrArg (fun b => some (Value.bool b)) hb288) rfl rfl rfl (Y_move rfl rfl) ?_; clear hf; intro a hf
            refine sYg hf hs rfl rfl rfl (congrArg (fun b => some (Value.bool b)) hb288) rfl rfl rfl (Y_sub rfl rfl rfl) ?_; clear hf; intro a hf
            refine sYg hf hs rfl rfl rfl (congrArg (fun b => some (Value.bool b)) hb288) rfl rfl rfl (Y_eql rfl rfl rfl) ?_; clear hf; intro a hf
            refine sYg hf hs rfl rfl rfl (congrArg (fun b => some (Value.bool b)) hb288) rfl rfl rfl (Y_move rfl rfl) ?_; clear hf; intro a hf
            refine bsplit (x176 == (IntKind.i64.wrap (r20.1 - 1))) (fun hb289 => ?_) (fun hb289 => ?_)
            ·have hj279 := bif_t hj279 hb289
             refine sYg hf hs rfl rfl rfl (congrArg (fun b => some (Value.bool b)) hb289) rfl rfl rfl (Y_move rfl rfl) ?_; clear hf; intro a hf
             refine sYg hf hs rfl rfl rfl (congrArg (fun b => some (Value.bool b)) hb289) rfl rfl rfl (Y_move rfl rfl) ?_; clear hf; intro a hf
             obtain ⟨q290, hi291, hj279⟩ := bind_some hj279
             obtain ⟨hi291a, hi291b, hi291q⟩ := idx_some hi291
             obtain ⟨A292, c293, hv294⟩ := hs.matRow (i := 0) rfl hi291q
             refine sYg hf hs rfl rfl rfl (congrArg (fun b => some (Value.bool b)) hb289) rfl rfl rfl (Y_index rfl rfl rfl el59 ti23 (Rd.isAt (hs.rdV (i := 0) rfl) hv294) hi291a (ltn hn46 hi291b)) ?_; clear hf; intro a hf
             refine sYg hf hs rfl rfl rfl (congrArg (fun b => some (Value.bool b)) hb289) rfl rfl rfl (Y_load_rd rfl rfl (fun w hs => hs.rdV (i := 0) rfl) (at1 hv294) ag23) ?_; clear hf; intro a hf
             obtain ⟨r295, hc296, hj279⟩ := bind_some hj279
             refine sCallg hf rfl rfl rfl (congrArg (fun b => some (Value.bool b)) hb289) rfl rfl rfl rfl (cap := []) rfl rfl en38 (laws_sum_ok F q290 A292 q290.length c293 rfl _ _ hc296 (hs.rdRow (i := 0) rfl ⟨hi291q, hv294⟩)) ?_; clear hf
             rintro _ w ⟨rfl, hs1⟩ a hf
             have hs : St [] W w [.mat A43 n44 c45 23 2 vs47 r41.1] := hs.ext hs1.below
             clear hs1
             refine sYg hf hs rfl rfl rfl (congrArg (fun b => some (Value.bool b)) hb289) rfl rfl rfl (Y_eql rfl rfl rfl) ?_; clear hf; intro a hf
             refine sYg hf hs rfl rfl rfl (congrArg (fun b => some (Value.bool b)) hb288) rfl rfl rfl (Y_pickT rfl (congrArg (fun b => some (Value.bool b)) hb289) rfl) ?_; clear hf; intro a hf
             refine sY hf hs rfl rfl rfl (Y_pickF rfl (congrArg (fun b => some (Value.bool b)) hb288) rfl) ?_; clear hf; intro a hf
             refine wpO_nil ?_
             refine wpL_nil (then_normal ?_)
             exact ⟨(r295 == 0), Option.some.inj hj279, (FrD.pick (FrD.pick (FrD.pick (FrD.pick (FrD.pick (FrD.pick hf.none hf rfl) hf rfl) hf rfl) hf rfl) hf rfl) hf rfl), hs⟩
            ·have hj279 := bif_f hj279 hb289
             refine sNo hf rfl rfl rfl (congrArg (fun b => some (Value.bool b)) hb289) rfl rfl rfl ?_; clear hf; intro a hf
             refine sNo hf rfl rfl rfl (congrArg (fun b => some (Value.bool b)) hb289) rfl rfl rfl ?_; clear hf; intro a hf
             refine sNo hf rfl rfl rfl (congrArg (fun b => some (Value.bool b)) hb289) rfl rfl rfl ?_; clear hf; intro a hf
             refine sNo hf rfl rfl rfl (congrArg (fun b => some (Value.bool b)) hb289) rfl rfl rfl ?_; clear hf; intro a hf
             refine sNo hf rfl rfl rfl (congrArg (fun b => some (Value.bool b)) hb289) rfl rfl rfl ?_; clear hf; intro a hf
             refine sNo hf rfl rfl rfl (congrArg (fun b => some (Value.bool b)) hb289) rfl rfl rfl ?_; clear hf; intro a hf
             refine sYg hf hs rfl rfl rfl (congrArg (fun b => some (Value.bool b)) hb288) rfl rfl rfl (Y_pickF rfl (congrArg (fun b => some (Value.bool b)) hb289) rfl) ?_; clear hf; intro a hf
             refine sY hf hs rfl rfl rfl (Y_pickF rfl (congrArg (fun b => some (Value.bool b)) hb288) rfl) ?_; clear hf; intro a hf
             refine wpO_nil ?_
             refine wpL_nil (then_normal ?_)
             exact ⟨false, Option.some.inj hj279, (FrD.pick (FrD.pick (FrD.pick (FrD.pick (FrD.pick (FrD.pick hf.none hf rfl) hf rfl) hf rfl) hf rfl) hf rfl) hf rfl), hs⟩
          ·have hj279 := bif_f hj279 hb280
           refine sNo hf rfl rfl rfl (congrArg (fun b => some (Value.bool b)) hb280) rfl rfl rfl ?_; clear hf; intro a hf
           refine sNo hf rfl rfl rfl (congrArg (fun b => some (Value.bool b)) hb280) rfl rfl rfl ?_; clear hf; intro a hf
           refine sNo hf rfl rfl rfl (congrArg (fun b => some (Value.bool b)) hb280) rfl rfl rfl ?_; clear hf; intro a hf
           refine sNo hf rfl rfl rfl (congrArg (fun b => some (Value.bool b)) hb280) rfl rfl rfl ?_; clear hf; intro a hf
           refine sNo hf rfl rfl rfl (congrArg (fun b => some (Value.bool b)) hb280) rfl rfl rfl ?_; clear hf; intro a hf
           refine sNo hf rfl rfl rfl (congrArg (fun b => some (Value.bool b)) hb280) rfl rfl rfl ?_; clear hf; intro a hf
           refine sY hf hs rfl rfl rfl (Y_pickF rfl (congrArg (fun b => some (Value.bool b)) hb280) rfl) ?_; clear hf; intro a hf
           refine sY hf hs rfl rfl rfl (Y_move rfl rfl) ?_; clear hf; intro a hf
           refine sYg hf hs rfl rfl rfl rfl rfl rfl rfl (Y_move rfl rfl) ?_; clear hf; intro a hf
           refine sYg hf hs rfl rfl rfl rfl rfl rfl rfl (Y_move rfl rfl) ?_; clear hf; intro a hf
           refine sYg hf hs rfl rfl rfl rfl rfl rfl rfl (Y_sub rfl rfl rfl) ?_; clear hf; intro a hf
           refine sYg hf hs rfl rfl rfl rfl rfl rfl rfl (Y_eql rfl rfl rfl) ?_; clear hf; intro a hf
           refine sYg hf hs rfl rfl rfl rfl rfl rfl rfl (Y_move rfl rfl) ?_; clear hf; intro a hf
           refine bsplit (x176 == (IntKind.i64.wrap (r20.1 - 1))) (fun hb297 => ?_) (fun hb297 => ?_)
           ·have hj279 := bif_t hj279 hb297
            refine sYg hf hs rfl rfl rfl (congrArg (fun b => some (Value.bool b)) hb297) rfl rfl rfl (Y_move rfl rfl) ?_; clear hf; intro a hf
            refine sYg hf hs rfl rfl rfl (congrArg (fun b => some (Value.bool b)) hb297) rfl rfl rfl (Y_move rfl rfl) ?_; clear hf; intro a hf
            obtain ⟨q298, hi299, hj279⟩ := bind_some hj279
            obtain ⟨hi299a, hi299b, hi299q⟩ := idx_some hi299
            obtain ⟨A300, c301, hv302⟩ := hs.matRow (i := 0) rfl hi299q
            refine sYg hf hs rfl rfl rfl (congrArg (fun b => some (Value.bool b)) hb297) rfl rfl rfl (Y_index rfl rfl rfl el59 ti23 (Rd.isAt (hs.rdV (i := 0) rfl) hv302) hi299a (ltn hn46 hi299b)) ?_; clear hf; intro a hf
            refine sYg hf hs rfl rfl rfl (congrArg (fun b => some (Value.bool b)) hb297) rfl rfl rfl (Y_load_rd rfl rfl (fun w hs => hs.rdV (i := 0) rfl) (at1 hv302) ag23) ?_; clear hf; intro a hf
            obtain ⟨r303, hc304, hj279⟩ := bind_some hj279
            refine sCallg hf rfl rfl rfl (congrArg (fun b => some (Value.bool b)) hb297) rfl rfl rfl rfl (cap := []) rfl rfl en38 (laws_sum_ok F q298 A300 q298.length c301 rfl _ _ hc304 (hs.rdRow (i := 0) rfl ⟨hi299q, hv302⟩)) ?_; clear hf
            rintro _ w ⟨rfl, hs1⟩ a hf
            have hs : St [] W w [.mat A43 n44 c45 23 2 vs47 r41.1] := hs.ext hs1.below
            clear hs1
            refine sYg hf hs rfl rfl rfl (congrArg (fun b => some (Value.bool b)) hb297) rfl rfl rfl (Y_eql rfl rfl rfl) ?_; clear hf; intro a hf
            refine sYg hf hs rfl rfl rfl rfl rfl rfl rfl (Y_pickT rfl (congrArg (fun b => some (Value.bool b)) hb297) rfl) ?_; clear hf; intro a hf
            refine sY hf hs rfl rfl rfl (Y_pickF rfl rfl rfl) ?_; clear hf; intro a hf
            refine wpO_nil ?_
            refine wpL_nil (then_normal ?_)
            exact ⟨(r303 == 0), Option.some.inj hj279, (FrD.pick (FrD.pick (FrD.pick (FrD.pick (FrD.pick (FrD.pick hf.none hf rfl) hf rfl) hf rfl) hf rfl) hf rfl) hf rfl), hs⟩
           ·have hj279 := bif_f hj279 hb297
            refine sNo hf rfl rfl rfl (congrArg (fun b => some (Value.bool b)) hb297) rfl rfl rfl ?_; clear hf; intro a hf
            refine sNo hf rfl rfl rfl (congrArg (fun b => some (Value.bool b)) hb297) rfl rfl rfl ?_; clear hf; intro a hf
            refine sNo hf rfl rfl rfl (congrArg (fun b => some (Value.bool b)) hb297) rfl rfl rfl ?_; clear hf; intro a hf
            refine sNo hf rfl rfl rfl (congrArg (fun b => some (Value.bool b)) hb297) rfl rfl rfl ?_; clear hf; intro a hf
            refine sNo hf rfl rfl rfl (congrArg (fun b => some (Value.bool b)) hb297) rfl rfl rfl ?_; clear hf; intro a hf
            refine sNo hf rfl rfl rfl (congrArg (fun b => some (Value.bool b)) hb297) rfl rfl rfl ?_; clear hf; intro a hf
            refine sYg hf hs rfl rfl rfl rfl rfl rfl rfl (Y_pickF rfl (congrArg (fun b => some (Value.bool b)) hb297) rfl) ?_; clear hf; intro a hf
            refine sY hf hs rfl rfl rfl (Y_pickF rfl rfl rfl) ?_; clear hf; intro a hf
            refine wpO_nil ?_
            refine wpL_nil (then_normal ?_)
            exact ⟨false, Option.some.inj hj279, (FrD.pick (FrD.pick (FrD.pick (FrD.pick (FrD.pick (FrD.pick hf.none hf rfl) hf rfl) hf rfl) hf rfl) hf rfl) hf rfl), hs⟩
         ·rintro a w ⟨b277, hr_, hf, hs⟩
          subst hr_
          try dsimp only at hm242
          refine wpL_cond hf rfl (fun hb305 => ?_) (fun hb305 => ?_)
          ·have hm242 := bif_t hm242 hb305
           refine wpL_seq <| wpL_region ?_
           refine sY hf hs rfl rfl rfl (Y_assign rfl rfl) ?_; clear hf; intro a hf
           refine wpO_nil ?_
           obtain rfl := Option.some.inj hm242
           try dsimp only at hm
           obtain rfl := Option.some.inj hm
           refine wpL_ret (Qb_ret (Ql_ret (Qb_ret (ret_tmp rfl hf rfl ?_))))
           exact ⟨_, rfl, rfl, hs.sel [] (by decide)⟩
          ·have hm242 := bif_f hm242 hb305
           refine wpL_skip ?_
           refine wpL_nil (Qb_normal ?_)
           refine wpL_region ?_
           refine sY hf hs rfl rfl rfl (Y_move rfl rfl) ?_; clear hf; intro a hf
           refine sY hf hs rfl rfl rfl (Y_add rfl rfl rfl) ?_; clear hf; intro a hf
           refine sY hf hs rfl rfl rfl (Y_assign rfl rfl) ?_; clear hf; intro a hf
           refine wpO_nil ?_
           refine wpL_nil (Ql_normal ?_)
           exact ⟨(IntKind.i64.wrap (x175 + r250)), (IntKind.i64.wrap (x176 + 1)), hm242, (FrD.pick (FrD.pick (FrD.pick (FrD.pick (FrD.pick hf.none hf rfl) hf rfl) hf rfl) hf rfl) hf rfl), hs⟩
        ·have hm242 := bif_f hm242 hb244
         refine wpL_exit (Ql_exit (Qb_exit ?_))
         exact ⟨x175, Option.some.inj hm242, (FrD.pick (FrD.pick hf.none hf rfl) hf rfl), hs.sel [] (by decide)⟩
      ·rintro a w ⟨x239, hr_, hf, hs⟩
       subst hr_
       try dsimp only at hm
       refine wpL_seq <| wpL_region ?_
       refine sY hf hs rfl rfl rfl (Y_move rfl rfl) ?_; clear hf; intro a hf
       refine sY hf hs rfl rfl rfl (Y_move rfl rfl) ?_; clear hf; intro a hf
       refine sY hf hs rfl rfl rfl (Y_eql rfl rfl rfl) ?_; clear hf; intro a hf
       refine sY hf hs rfl rfl rfl (Y_assign rfl rfl) ?_; clear hf; intro a hf
       refine wpO_nil ?_
       obtain rfl := Option.some.inj hm
       refine wpL_ret (ret_tmp rfl hf rfl ?_)
       exact ⟨_, rfl, rfl, hs⟩

end Go.Proofs.Ytebmlphobgaboaa
