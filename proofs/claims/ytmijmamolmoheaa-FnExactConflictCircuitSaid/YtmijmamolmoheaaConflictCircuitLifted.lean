/- The functions do what their models say. -/
import Derived.Test.YtmijmamolmoheaaConflictCircuitLifted2
import Derived.Test.YtmijmamolmoheaaRows
namespace Go.Proofs.Ytmijmamolmoheaa
open Go.RowKit

set_option maxHeartbeats 2000000 in
set_option maxRecDepth 100000 in
theorem laws_FnExactConflictCircuit_ok (F : Nat) (p0 : LEventGraph) (A_p0_1 : Option Addr) (n_p0_1 c_p0_1 : Nat) (hn_p0_1 : n_p0_1 = p0.Places.length) (p1 : Int) (r : Bool) (W : World) (hm : laws_FnExactConflictCircuit F p0 p1 = some r) (h_p0_1 : Rd W A_p0_1 ((recs LPlace.cells) p0.Places)) :
    Calls Try.prog 6 [.agg #[.int .i64 p0.Events, .slice A_p0_1 n_p0_1 c_p0_1], .int .i64 p1].toArray W fun e w' => ∃ v, e = .returned v ∧ v = .bool r ∧ St [] W w' [] := by
  subst hn_p0_1
  unfold laws_FnExactConflictCircuit at hm
  refine Calls.enter (N := 101) Try.func6 rfl rfl rfl (fun a hf => ?_)
  have hs := St.start W
  obtain ⟨w, hw_⟩ : ∃ w, w = W := ⟨W, rfl⟩
  clear hw_ w
  refine wpL_seq ?_
  refine wpL_region ?_
  refine sBox hf hs rfl rfl rfl rfl rfl (cs := [.int .i64 p0.Events, .slice A_p0_1 p0.Places.length c_p0_1]) rfl ?_; clear hf hs; intro a w b1 hs hf
  have hs : St [] W w [.blk b1 24 [.int .i64 p0.Events, .slice A_p0_1 p0.Places.length c_p0_1]] := hs
  refine sY hf hs rfl rfl rfl (Y_assign rfl rfl) ?_; clear hf; intro a hf
  refine wpO_nil ?_
  refine wpL_seq ?_
  refine wpL_region ?_
  refine sY hf hs rfl rfl rfl (Y_assign rfl rfl) ?_; clear hf; intro a hf
  refine wpO_nil ?_
  refine wpL_seq ?_
  refine wpL_region ?_
  refine sY hf hs rfl rfl rfl (Y_load_blkS rfl rfl (i := 0) rfl ag24 ti24 rfl) ?_; clear hf; intro a hf
  refine sY hf hs rfl rfl rfl (Y_move rfl rfl) ?_; clear hf; intro a hf
  obtain ⟨r2, hc3, hm⟩ := bind_some hm
  refine sCall hf rfl rfl rfl rfl (cap := []) rfl rfl en16 (laws_szEventGraph_ok F p0 A_p0_1 p0.Places.length c_p0_1 rfl 1048576 _ _ hc3 (h_p0_1.at hs)) ?_; clear hf
  rintro _ w ⟨rfl, hs1⟩ a hf
  have hs : St [] W w [.blk b1 24 [.int .i64 p0.Events, .slice A_p0_1 p0.Places.length c_p0_1]] := hs.ext hs1.below
  clear hs1
  refine sY hf hs rfl rfl rfl (Y_assign rfl rfl) ?_; clear hf; intro a hf
  refine wpO_nil ?_
  refine wpL_seq ?_
  refine wpL_seq ?_
  refine wpL_region ?_
  refine sY hf hs rfl rfl rfl (Y_move rfl rfl) ?_; clear hf; intro a hf
  refine sY hf hs rfl rfl rfl (Y_lss rfl rfl rfl) ?_; clear hf; intro a hf
  refine wpO_nil ?_
  refine wpL_cond hf rfl (fun hb4 => ?_) (fun hb4 => ?_)
  · have hm := bif_t hm hb4
    refine wpL_seq ?_
    refine wpL_region ?_
    refine sY hf hs rfl rfl rfl (Y_assign rfl rfl) ?_; clear hf; intro a hf
    refine wpO_nil ?_
    obtain rfl := Option.some.inj hm
    refine wpL_ret (ret_tmp rfl hf rfl ?_)
    exact ⟨_, rfl, rfl, hs.sel [] (by decide)⟩
  · have hm := bif_f hm hb4
    refine wpL_skip ?_
    refine wpL_seq ?_
    refine wpL_region ?_
    refine sY hf hs rfl rfl rfl (Y_load_blkS rfl rfl (i := 0) rfl ag24 ti24 rfl) ?_; clear hf; intro a hf
    obtain ⟨r5, hc6, hm⟩ := bind_some hm
    refine sCall hf rfl rfl rfl rfl (cap := []) rfl rfl en18 (laws_toEventGraph_ok F p0 A_p0_1 p0.Places.length c_p0_1 rfl _ _ hc6 (h_p0_1.at hs)) ?_; clear hf
    rintro _ w ⟨A7, n8, c9, rfl, hn10, hs1⟩ a hf
    have hs : St [] W w [.blk b1 24 [.int .i64 p0.Events, .slice A_p0_1 p0.Places.length c_p0_1], .row A7 n8 c9 120 4 ((recs GPlace.cells) r5.Places)] := hs.join hs1
    clear hs1
    refine sY hf hs rfl rfl rfl (Y_move rfl rfl) ?_; clear hf; intro a hf
    obtain ⟨r11, hc12, hm⟩ := bind_some hm
    refine sCall hf rfl rfl rfl rfl (cap := []) rfl rfl en33 (spec_ConflictCircuit_ok F r5 A7 n8 c9 hn10 p1 _ _ hc12 (hs.rd (i := 1) rfl)) ?_; clear hf
    rintro _ w ⟨A13, n14, c15, rfl, hn16, hs1⟩ a hf
    have hs : St [] W w [.blk b1 24 [.int .i64 p0.Events, .slice A_p0_1 p0.Places.length c_p0_1], .row A7 n8 c9 120 4 ((recs GPlace.cells) r5.Places), .row A13 n14 c15 2 1 (ints r11.1)] := hs.join hs1
    clear hs1
    refine sY hf hs rfl rfl rfl (Y_move rfl rfl) ?_; clear hf; intro a hf
    refine sY hf hs rfl rfl rfl (Y_extract rfl rfl rfl) ?_; clear hf; intro a hf
    refine sY hf hs rfl rfl rfl (Y_extract rfl rfl rfl) ?_; clear hf; intro a hf
    refine sY hf hs rfl rfl rfl (Y_assign rfl rfl) ?_; clear hf; intro a hf
    refine sY hf hs rfl rfl rfl (Y_assign rfl rfl) ?_; clear hf; intro a hf
    refine wpO_nil ?_
    refine wpL_seq ?_
    refine wpL_region ?_
    refine sY hf hs rfl rfl rfl (Y_load_blkS rfl rfl (i := 0) rfl ag24 ti24 rfl) ?_; clear hf; intro a hf
    obtain ⟨r17, hc18, hm⟩ := bind_some hm
    refine sCall hf rfl rfl rfl rfl (cap := []) rfl rfl en18 (laws_toEventGraph_ok F p0 A_p0_1 p0.Places.length c_p0_1 rfl _ _ hc18 (h_p0_1.at hs)) ?_; clear hf
    rintro _ w ⟨A19, n20, c21, rfl, hn22, hs1⟩ a hf
    have hs : St [] W w [.blk b1 24 [.int .i64 p0.Events, .slice A_p0_1 p0.Places.length c_p0_1], .row A7 n8 c9 120 4 ((recs GPlace.cells) r5.Places), .row A13 n14 c15 2 1 (ints r11.1), .row A19 n20 c21 120 4 ((recs GPlace.cells) r17.Places)] := hs.join hs1
    clear hs1
    refine sAlloc hf hs rfl rfl rfl rfl ti30 ?_; clear hf hs; intro a w b23 hs hf
    have hs : St [] W w [.blk b1 24 [.int .i64 p0.Events, .slice A_p0_1 p0.Places.length c_p0_1], .row A7 n8 c9 120 4 ((recs GPlace.cells) r5.Places), .row A13 n14 c15 2 1 (ints r11.1), .row A19 n20 c21 120 4 ((recs GPlace.cells) r17.Places), .blk b23 30 [.int .i64 0, .slice none 0 0]] := hs
    refine sStore (i := 4) (us := [.int .i64 r17.Events, .slice A19 n20 c21]) hf hs rfl rfl rfl rfl rfl rfl ti30 rfl rfl rfl (Nat.le_of_ble_eq_true rfl) rfl ?_; clear hs; intro w hs
    have hs : St [] W w [.blk b1 24 [.int .i64 p0.Events, .slice A_p0_1 p0.Places.length c_p0_1], .row A7 n8 c9 120 4 ((recs GPlace.cells) r5.Places), .row A13 n14 c15 2 1 (ints r11.1), .row A19 n20 c21 120 4 ((recs GPlace.cells) r17.Places), .blk b23 30 [.int .i64 r17.Events, .slice A19 n20 c21]] := hs
    refine wpO_nil ?_
    refine wpL_seq ?_
    refine wpL_region ?_
    refine sY hf hs rfl rfl rfl (Y_load_blkS rfl rfl (i := 4) rfl ag30 ti30 rfl) ?_; clear hf; intro a hf
    refine sY hf hs rfl rfl rfl (Y_move rfl rfl) ?_; clear hf; intro a hf
    obtain ⟨r24, hc25, hm⟩ := bind_some hm
    refine sCall hf rfl rfl rfl rfl (cap := []) rfl rfl en34 (impl_ConflictCircuit_ok F r17 A19 n20 c21 hn22 p1 _ _ hc25 (hs.rd (i := 3) rfl)) ?_; clear hf
    rintro _ w ⟨A26, n27, c28, rfl, hn29, hs1⟩ a hf
    have hs : St [] W w [.blk b1 24 [.int .i64 p0.Events, .slice A_p0_1 p0.Places.length c_p0_1], .row A7 n8 c9 120 4 ((recs GPlace.cells) r5.Places), .row A13 n14 c15 2 1 (ints r11.1), .row A19 n20 c21 120 4 ((recs GPlace.cells) r17.Places), .blk b23 30 [.int .i64 r17.Events, .slice A19 n20 c21], .row A26 n27 c28 2 1 (ints r24.1)] := hs.join hs1
    clear hs1
    refine sY hf hs rfl rfl rfl (Y_move rfl rfl) ?_; clear hf; intro a hf
    refine sY hf hs rfl rfl rfl (Y_extract rfl rfl rfl) ?_; clear hf; intro a hf
    refine sY hf hs rfl rfl rfl (Y_extract rfl rfl rfl) ?_; clear hf; intro a hf
    refine sY hf hs rfl rfl rfl (Y_assign rfl rfl) ?_; clear hf; intro a hf
    refine sY hf hs rfl rfl rfl (Y_assign rfl rfl) ?_; clear hf; intro a hf
    refine wpO_nil ?_
    refine wpL_seq ?_
    refine wpL_seq ?_
    obtain ⟨r34, hj35, hm⟩ := bind_some hm
    refine wpL_cut (fun a w => ∃ b33 : Bool, b33 = r34 ∧ Fr a 101 [(1, .int .i64 p1), (2, .pointer (some ⟨b1, 0, none⟩)), (6, .slice A13 n14 c15), (7, .int .i64 r11.2), (8, .pointer (some ⟨b23, 0, none⟩)), (9, .slice A26 n27 c28), (10, .int .i64 r24.2), (44, .bool b33)] ∧ St [] W w [.blk b1 24 [.int .i64 p0.Events, .slice A_p0_1 p0.Places.length c_p0_1], .row A13 n14 c15 2 1 (ints r11.1), .blk b23 30 [.int .i64 r17.Events, .slice A19 n20 c21], .row A19 n20 c21 120 4 ((recs GPlace.cells) r17.Places), .row A26 n27 c28 2 1 (ints r24.1)]) ?_ ?_
    · refine wpL_region ?_
      refine sY hf hs rfl rfl rfl (Y_move rfl rfl) ?_; clear hf; intro a hf
      refine sY hf hs rfl rfl rfl (Y_move rfl rfl) ?_; clear hf; intro a hf
      obtain ⟨r36, hc37, hj35⟩ := bind_some hj35
      refine sCall hf rfl rfl rfl rfl (cap := []) rfl rfl en25 (laws_eqInt64S_ok F r24.1 A26 n27 c28 hn29 r11.1 A13 n14 c15 hn16 _ _ hc37 (hs.rd (i := 5) rfl) (hs.rd (i := 2) rfl)) ?_; clear hf
      rintro _ w ⟨rfl, hs1⟩ a hf
      have hs : St [] W w [.blk b1 24 [.int .i64 p0.Events, .slice A_p0_1 p0.Places.length c_p0_1], .row A7 n8 c9 120 4 ((recs GPlace.cells) r5.Places), .row A13 n14 c15 2 1 (ints r11.1), .row A19 n20 c21 120 4 ((recs GPlace.cells) r17.Places), .blk b23 30 [.int .i64 r17.Events, .slice A19 n20 c21], .row A26 n27 c28 2 1 (ints r24.1)] := hs.ext hs1.below
      clear hs1
      refine sY hf hs rfl rfl rfl (Y_not rfl rfl) ?_; clear hf; intro a hf
      refine sY hf hs rfl rfl rfl (Y_move rfl rfl) ?_; clear hf; intro a hf
      refine bsplit (!r36) (fun hb38 => ?_) (fun hb38 => ?_)
      · have hj35 := bif_t hj35 hb38
        refine sNo hf rfl rfl rfl (congrArg (fun b => some (Value.bool b)) hb38) rfl rfl rfl ?_; clear hf; intro a hf
        refine sNo hf rfl rfl rfl (congrArg (fun b => some (Value.bool b)) hb38) rfl rfl rfl ?_; clear hf; intro a hf
        refine sNo hf rfl rfl rfl (congrArg (fun b => some (Value.bool b)) hb38) rfl rfl rfl ?_; clear hf; intro a hf
        refine sY hf hs rfl rfl rfl (Y_pickT rfl (congrArg (fun b => some (Value.bool b)) hb38) rfl) ?_; clear hf; intro a hf
        refine wpO_nil ?_
        refine wpL_nil (then_normal ?_)
        exact ⟨true, Option.some.inj hj35, (Fr.pick (Fr.pick (Fr.pick (Fr.pick (Fr.pick (Fr.pick (Fr.pick (Fr.pick hf.none hf rfl) hf rfl) hf rfl) hf rfl) hf rfl) hf rfl) hf rfl) hf rfl), hs.sel [0, 2, 4, 3, 5] (by decide)⟩
      · have hj35 := bif_f hj35 hb38
        refine sYg hf hs rfl rfl rfl (congrArg (fun b => some (Value.bool b)) hb38) rfl rfl rfl (Y_move rfl rfl) ?_; clear hf; intro a hf
        refine sYg hf hs rfl rfl rfl (congrArg (fun b => some (Value.bool b)) hb38) rfl rfl rfl (Y_move rfl rfl) ?_; clear hf; intro a hf
        refine sYg hf hs rfl rfl rfl (congrArg (fun b => some (Value.bool b)) hb38) rfl rfl rfl (Y_neq rfl rfl rfl) ?_; clear hf; intro a hf
        refine sY hf hs rfl rfl rfl (Y_pickF rfl (congrArg (fun b => some (Value.bool b)) hb38) rfl) ?_; clear hf; intro a hf
        refine wpO_nil ?_
        refine wpL_nil (then_normal ?_)
        exact ⟨(r24.2 != r11.2), Option.some.inj hj35, (Fr.pick (Fr.pick (Fr.pick (Fr.pick (Fr.pick (Fr.pick (Fr.pick (Fr.pick hf.none hf rfl) hf rfl) hf rfl) hf rfl) hf rfl) hf rfl) hf rfl) hf rfl), hs.sel [0, 2, 4, 3, 5] (by decide)⟩
    · rintro a w ⟨b33, hr_, hf, hs⟩
      subst hr_
      try dsimp only at hm
      refine wpL_cond hf rfl (fun hb39 => ?_) (fun hb39 => ?_)
      · have hm := bif_t hm hb39
        refine wpL_seq ?_
        refine wpL_region ?_
        refine sY hf hs rfl rfl rfl (Y_assign rfl rfl) ?_; clear hf; intro a hf
        refine wpO_nil ?_
        obtain rfl := Option.some.inj hm
        refine wpL_ret (ret_tmp rfl hf rfl ?_)
        exact ⟨_, rfl, rfl, hs.sel [] (by decide)⟩
      · have hm := bif_f hm hb39
        refine wpL_skip ?_
        refine wpL_seq ?_
        refine wpL_seq ?_
        refine wpL_drawM [.blk b1 24 [.int .i64 p0.Events, .slice A_p0_1 p0.Places.length c_p0_1], .row A13 n14 c15 2 1 (ints r11.1), .blk b23 30 [.int .i64 r17.Events, .slice A19 n20 c21], .row A19 n20 c21 120 4 ((recs GPlace.cells) r17.Places), .row A26 n27 c28 2 1 (ints r24.1)] [3] (by kernel_rfl) hs ?_; clear hs; intro w hs
        have hs0 : St [] W w [.blk b1 24 [.int .i64 p0.Events, .slice A_p0_1 p0.Places.length c_p0_1], .row A13 n14 c15 2 1 (ints r11.1), .blk b23 30 [.int .i64 r17.Events, .slice A19 n20 c21], .row A19 n20 c21 120 4 ((recs GPlace.cells) r17.Places), .row A26 n27 c28 2 1 (ints r24.1)] := hs
        refine mY (i := 0) [[]] rfl (by kernel_rfl) (by kernel_rfl) hf hs0 rfl rfl rfl (Y_load_blkS rfl rfl (i := 2) rfl ag30 ti30 rfl) ?_; clear hf; intro a hf
        refine mY (i := 1) [[2]] rfl (by kernel_rfl) (by kernel_rfl) hf hs0 rfl rfl rfl (Y_load_blkS rfl rfl (i := 0) rfl ag24 ti24 rfl) ?_; clear hf; intro a hf
        refine mRun (i := 2) rfl (by kernel_rfl) ?_
        obtain ⟨r48, hc49, hm⟩ := bind_some hm
        refine sCall hf rfl rfl rfl rfl (cap := []) rfl rfl en18 (laws_toEventGraph_ok F p0 A_p0_1 p0.Places.length c_p0_1 rfl _ _ hc49 (h_p0_1.at hs)) ?_; clear hf
        rintro _ w ⟨A50, n51, c52, rfl, hn53, hs1⟩ a hf
        have hs : St [] W w [.blk b1 24 [.int .i64 p0.Events, .slice A_p0_1 p0.Places.length c_p0_1], .row A13 n14 c15 2 1 (ints r11.1), .blk b23 30 [.int .i64 r17.Events, .slice A19 n20 c21], .row A19 n20 c21 120 4 ((recs GPlace.cells) r17.Places), .row A26 n27 c28 2 1 (ints r24.1), .row A50 n51 c52 120 4 ((recs GPlace.cells) r48.Places)] := hs.join hs1
        clear hs1
        have hs0 : St [] W w [.blk b1 24 [.int .i64 p0.Events, .slice A_p0_1 p0.Places.length c_p0_1], .row A13 n14 c15 2 1 (ints r11.1), .blk b23 30 [.int .i64 r17.Events, .slice A19 n20 c21], .row A19 n20 c21 120 4 ((recs GPlace.cells) r17.Places), .row A26 n27 c28 2 1 (ints r24.1)] := hs.sel [0, 1, 2, 3, 4] (by decide)
        refine wpO_nil ⟨Or.inr (fun _ => hs0), ?_⟩
        refine mRun (i := 3) rfl (by kernel_rfl) ?_
        obtain ⟨r54, hc55, hm⟩ := bind_some hm
        refine sCall hf rfl rfl rfl rfl (cap := []) rfl rfl en20 (laws_eqEventGraph_ok F r17 A19 n20 c21 hn22 r48 A50 n51 c52 hn53 _ _ hc55 (hs.rd (i := 3) rfl) (hs.rd (i := 5) rfl)) ?_; clear hf
        rintro _ w ⟨rfl, hs1⟩ a hf
        have hs : St [] W w [.blk b1 24 [.int .i64 p0.Events, .slice A_p0_1 p0.Places.length c_p0_1], .row A13 n14 c15 2 1 (ints r11.1), .blk b23 30 [.int .i64 r17.Events, .slice A19 n20 c21], .row A19 n20 c21 120 4 ((recs GPlace.cells) r17.Places), .row A26 n27 c28 2 1 (ints r24.1), .row A50 n51 c52 120 4 ((recs GPlace.cells) r48.Places)] := hs.ext hs1.below
        clear hs1
        refine wpO_nil ⟨Or.inl (by decide), ?_⟩
        refine mYp (i := 4) rfl (by kernel_rfl) (by kernel_rfl) hf rfl rfl rfl (fun _ => Y_not rfl rfl) ?_; clear hf; intro a hf
        refine mDone (by kernel_rfl) ?_
        clear hs0
        refine wpL_cond hf rfl (fun hb56 => ?_) (fun hb56 => ?_)
        · have hm := bif_t hm hb56
          refine wpL_seq ?_
          refine wpL_region ?_
          refine sY hf hs rfl rfl rfl (Y_assign rfl rfl) ?_; clear hf; intro a hf
          refine wpO_nil ?_
          obtain rfl := Option.some.inj hm
          refine wpL_ret (ret_tmp rfl hf rfl ?_)
          exact ⟨_, rfl, rfl, hs.sel [] (by decide)⟩
        · have hm := bif_f hm hb56
          refine wpL_skip ?_
          refine wpL_seq ?_
          refine wpL_region ?_
          refine sY hf hs rfl rfl rfl (Y_assign rfl rfl) ?_; clear hf; intro a hf
          refine wpO_nil ?_
          refine wpL_seq ?_
          refine wpL_region ?_
          refine sY hf hs rfl rfl rfl (Y_load_blkS rfl rfl (i := 2) rfl ag30 ti30 rfl) ?_; clear hf; intro a hf
          refine sY hf hs rfl rfl rfl (Y_move rfl rfl) ?_; clear hf; intro a hf
          obtain ⟨r57, hc58, hm⟩ := bind_some hm
          refine sCall hf rfl rfl rfl rfl (cap := []) rfl rfl en32 (laws_markEventGraph_ok F r17 A19 n20 c21 hn22 1 _ _ hc58 (hs.res _ _ (show _[3]? = some _ from rfl))) ?_; clear hf
          rintro _ w ⟨rfl, hn59, hs1⟩ a hf
          have hs : St [] W w [.blk b1 24 [.int .i64 p0.Events, .slice A_p0_1 p0.Places.length c_p0_1], .row A13 n14 c15 2 1 (ints r11.1), .blk b23 30 [.int .i64 r17.Events, .slice A19 n20 c21], .row A19 n20 c21 120 4 ((recs GPlace.cells) r57.2), .row A26 n27 c28 2 1 (ints r24.1), .row A50 n51 c52 120 4 ((recs GPlace.cells) r48.Places)] := hs.mut (i := 3) rfl (fun b hb => muA_mem hb) hs1
          clear hs1
          refine sY hf hs rfl rfl rfl (Y_assign rfl rfl) ?_; clear hf; intro a hf
          refine wpO_nil ?_
          refine wpL_seq ?_
          refine wpL_seq ?_
          obtain ⟨r65, hj66, hm⟩ := bind_some hm
          refine wpL_cut (fun a w => ∃ b64 : Bool, b64 = r65 ∧ Fr a 101 [(1, .int .i64 p1), (2, .pointer (some ⟨b1, 0, none⟩)), (6, .slice A13 n14 c15), (7, .int .i64 r11.2), (9, .slice A26 n27 c28), (65, .bool b64)] ∧ St [] W w [.blk b1 24 [.int .i64 p0.Events, .slice A_p0_1 p0.Places.length c_p0_1], .row A13 n14 c15 2 1 (ints r11.1), .row A26 n27 c28 2 1 (ints r24.1)]) ?_ ?_
          · refine wpL_region ?_
            refine sY hf hs rfl rfl rfl (Y_move rfl rfl) ?_; clear hf; intro a hf
            refine sY hf hs rfl rfl rfl (Y_lss rfl rfl rfl) ?_; clear hf; intro a hf
            refine sY hf hs rfl rfl rfl (Y_move rfl rfl) ?_; clear hf; intro a hf
            refine bsplit (decide (r57.1 < 0)) (fun hb67 => ?_) (fun hb67 => ?_)
            · have hj66 := bif_t hj66 hb67
              refine sNo hf rfl rfl rfl (congrArg (fun b => some (Value.bool b)) hb67) rfl rfl rfl ?_; clear hf; intro a hf
              refine sNo hf rfl rfl rfl (congrArg (fun b => some (Value.bool b)) hb67) rfl rfl rfl ?_; clear hf; intro a hf
              refine sNo hf rfl rfl rfl (congrArg (fun b => some (Value.bool b)) hb67) rfl rfl rfl ?_; clear hf; intro a hf
              refine sNo hf rfl rfl rfl (congrArg (fun b => some (Value.bool b)) hb67) rfl rfl rfl ?_; clear hf; intro a hf
              refine sY hf hs rfl rfl rfl (Y_pickT rfl (congrArg (fun b => some (Value.bool b)) hb67) rfl) ?_; clear hf; intro a hf
              refine sY hf hs rfl rfl rfl (Y_move rfl rfl) ?_; clear hf; intro a hf
              refine sNo hf rfl rfl rfl rfl rfl rfl rfl ?_; clear hf; intro a hf
              refine sNo hf rfl rfl rfl rfl rfl rfl rfl ?_; clear hf; intro a hf
              refine sNo hf rfl rfl rfl rfl rfl rfl rfl ?_; clear hf; intro a hf
              refine sY hf hs rfl rfl rfl (Y_pickT rfl rfl rfl) ?_; clear hf; intro a hf
              refine wpO_nil ?_
              refine wpL_nil (then_normal ?_)
              exact ⟨true, Option.some.inj hj66, (Fr.pick (Fr.pick (Fr.pick (Fr.pick (Fr.pick (Fr.pick hf.none hf rfl) hf rfl) hf rfl) hf rfl) hf rfl) hf rfl), hs.sel [0, 1, 4] (by decide)⟩
            · have hj66 := bif_f hj66 hb67
              refine sYg hf hs rfl rfl rfl (congrArg (fun b => some (Value.bool b)) hb67) rfl rfl rfl (Y_move rfl rfl) ?_; clear hf; intro a hf
              refine sYg hf hs rfl rfl rfl (congrArg (fun b => some (Value.bool b)) hb67) rfl rfl rfl (Y_move rfl rfl) ?_; clear hf; intro a hf
              obtain ⟨r68, hc69, hj66⟩ := bind_some hj66
              refine sCallg hf rfl rfl rfl (congrArg (fun b => some (Value.bool b)) hb67) rfl rfl rfl rfl (cap := []) rfl rfl en25 (laws_eqInt64S_ok F r24.1 A26 n27 c28 hn29 r11.1 A13 n14 c15 hn16 _ _ hc69 (hs.rd (i := 4) rfl) (hs.rd (i := 1) rfl)) ?_; clear hf
              rintro _ w ⟨rfl, hs1⟩ a hf
              have hs : St [] W w [.blk b1 24 [.int .i64 p0.Events, .slice A_p0_1 p0.Places.length c_p0_1], .row A13 n14 c15 2 1 (ints r11.1), .blk b23 30 [.int .i64 r17.Events, .slice A19 n20 c21], .row A19 n20 c21 120 4 ((recs GPlace.cells) r57.2), .row A26 n27 c28 2 1 (ints r24.1), .row A50 n51 c52 120 4 ((recs GPlace.cells) r48.Places)] := hs.ext hs1.below
              clear hs1
              refine sYg hf hs rfl rfl rfl (congrArg (fun b => some (Value.bool b)) hb67) rfl rfl rfl (Y_not rfl rfl) ?_; clear hf; intro a hf
              refine sY hf hs rfl rfl rfl (Y_pickF rfl (congrArg (fun b => some (Value.bool b)) hb67) rfl) ?_; clear hf; intro a hf
              refine sY hf hs rfl rfl rfl (Y_move rfl rfl) ?_; clear hf; intro a hf
              refine bsplit (!r68) (fun hb70 => ?_) (fun hb70 => ?_)
              · have hj66 := bif_t hj66 hb70
                refine sNo hf rfl rfl rfl (congrArg (fun b => some (Value.bool b)) hb70) rfl rfl rfl ?_; clear hf; intro a hf
                refine sNo hf rfl rfl rfl (congrArg (fun b => some (Value.bool b)) hb70) rfl rfl rfl ?_; clear hf; intro a hf
                refine sNo hf rfl rfl rfl (congrArg (fun b => some (Value.bool b)) hb70) rfl rfl rfl ?_; clear hf; intro a hf
                refine sY hf hs rfl rfl rfl (Y_pickT rfl (congrArg (fun b => some (Value.bool b)) hb70) rfl) ?_; clear hf; intro a hf
                refine wpO_nil ?_
                refine wpL_nil (then_normal ?_)
                exact ⟨true, Option.some.inj hj66, (Fr.pick (Fr.pick (Fr.pick (Fr.pick (Fr.pick (Fr.pick hf.none hf rfl) hf rfl) hf rfl) hf rfl) hf rfl) hf rfl), hs.sel [0, 1, 4] (by decide)⟩
              · have hj66 := bif_f hj66 hb70
                refine sYg hf hs rfl rfl rfl (congrArg (fun b => some (Value.bool b)) hb70) rfl rfl rfl (Y_move rfl rfl) ?_; clear hf; intro a hf
                refine sYg hf hs rfl rfl rfl (congrArg (fun b => some (Value.bool b)) hb70) rfl rfl rfl (Y_move rfl rfl) ?_; clear hf; intro a hf
                refine sYg hf hs rfl rfl rfl (congrArg (fun b => some (Value.bool b)) hb70) rfl rfl rfl (Y_neq rfl rfl rfl) ?_; clear hf; intro a hf
                refine sY hf hs rfl rfl rfl (Y_pickF rfl (congrArg (fun b => some (Value.bool b)) hb70) rfl) ?_; clear hf; intro a hf
                refine wpO_nil ?_
                refine wpL_nil (then_normal ?_)
                exact ⟨(r24.2 != r11.2), Option.some.inj hj66, (Fr.pick (Fr.pick (Fr.pick (Fr.pick (Fr.pick (Fr.pick hf.none hf rfl) hf rfl) hf rfl) hf rfl) hf rfl) hf rfl), hs.sel [0, 1, 4] (by decide)⟩
          · rintro a w ⟨b64, hr_, hf, hs⟩
            subst hr_
            try dsimp only at hm
            refine wpL_cond hf rfl (fun hb71 => ?_) (fun hb71 => ?_)
            · have hm := bif_t hm hb71
              refine wpL_seq ?_
              refine wpL_region ?_
              refine sY hf hs rfl rfl rfl (Y_assign rfl rfl) ?_; clear hf; intro a hf
              refine wpO_nil ?_
              obtain rfl := Option.some.inj hm
              refine wpL_ret (ret_tmp rfl hf rfl ?_)
              exact ⟨_, rfl, rfl, hs.sel [] (by decide)⟩
            · have hm := bif_f hm hb71
              refine wpL_skip ?_
              refine wpL_seq ?_
              refine wpL_region ?_
              refine sY hf hs rfl rfl rfl (Y_assign rfl rfl) ?_; clear hf; intro a hf
              refine wpO_nil ?_
              refine wpL_seq ?_
              refine wpL_region ?_
              refine sY hf hs rfl rfl rfl (Y_move rfl rfl) ?_; clear hf; intro a hf
              refine sY hf hs rfl rfl rfl (Y_move rfl rfl) ?_; clear hf; intro a hf
              obtain ⟨r72, hc73, hm⟩ := bind_some hm
              refine sCall hf rfl rfl rfl rfl (cap := []) rfl rfl en28 (laws_markInt64S_ok F r24.1 A26 n27 c28 hn29 1 _ _ hc73 (hs.res _ _ (show _[2]? = some _ from rfl))) ?_; clear hf
              rintro _ w ⟨rfl, hn74, hs1⟩ a hf
              have hs : St [] W w [.blk b1 24 [.int .i64 p0.Events, .slice A_p0_1 p0.Places.length c_p0_1], .row A13 n14 c15 2 1 (ints r11.1), .row A26 n27 c28 2 1 (ints r72.2)] := hs.mut (i := 2) rfl (fun b hb => muA_mem hb) hs1
              clear hs1
              refine sY hf hs rfl rfl rfl (Y_assign rfl rfl) ?_; clear hf; intro a hf
              refine wpO_nil ?_
              refine wpL_seq ?_
              refine wpL_region ?_
              refine sY hf hs rfl rfl rfl (Y_assign rfl rfl) ?_; clear hf; intro a hf
              refine wpO_nil ?_
              refine wpL_seq ?_
              refine wpL_region ?_
              refine sY hf hs rfl rfl rfl (Y_move rfl rfl) ?_; clear hf; intro a hf
              refine sY hf hs rfl rfl rfl (Y_move rfl rfl) ?_; clear hf; intro a hf
              obtain ⟨r75, hc76, hm⟩ := bind_some hm
              refine sCall hf rfl rfl rfl rfl (cap := []) rfl rfl en29 (laws_heldInt64S_ok F r72.2 A26 n27 c28 hn74 1 _ _ hc76 (hs.rd (i := 2) rfl)) ?_; clear hf
              rintro _ w ⟨rfl, hs1⟩ a hf
              have hs : St [] W w [.blk b1 24 [.int .i64 p0.Events, .slice A_p0_1 p0.Places.length c_p0_1], .row A13 n14 c15 2 1 (ints r11.1), .row A26 n27 c28 2 1 (ints r72.2)] := hs.ext hs1.below
              clear hs1
              refine sY hf hs rfl rfl rfl (Y_assign rfl rfl) ?_; clear hf; intro a hf
              refine wpO_nil ?_
              refine wpL_seq ?_
              refine wpL_seq ?_
              refine wpL_region ?_
              refine sY hf hs rfl rfl rfl (Y_move rfl rfl) ?_; clear hf; intro a hf
              refine sY hf hs rfl rfl rfl (Y_lss rfl rfl rfl) ?_; clear hf; intro a hf
              refine wpO_nil ?_
              refine wpL_cond hf rfl (fun hb77 => ?_) (fun hb77 => ?_)
              · have hm := bif_t hm hb77
                refine wpL_seq ?_
                refine wpL_region ?_
                refine sY hf hs rfl rfl rfl (Y_assign rfl rfl) ?_; clear hf; intro a hf
                refine wpO_nil ?_
                obtain rfl := Option.some.inj hm
                refine wpL_ret (ret_tmp rfl hf rfl ?_)
                exact ⟨_, rfl, rfl, hs.sel [] (by decide)⟩
              · have hm := bif_f hm hb77
                refine wpL_skip ?_
                refine wpL_seq ?_
                refine wpL_seq ?_
                refine wpL_region ?_
                refine sY hf hs rfl rfl rfl (Y_move rfl rfl) ?_; clear hf; intro a hf
                refine sY hf hs rfl rfl rfl (Y_move rfl rfl) ?_; clear hf; intro a hf
                refine sY hf hs rfl rfl rfl (Y_neq rfl rfl rfl) ?_; clear hf; intro a hf
                refine wpO_nil ?_
                refine wpL_cond hf rfl (fun hb78 => ?_) (fun hb78 => ?_)
                · have hm := bif_t hm hb78
                  refine wpL_seq ?_
                  refine wpL_region ?_
                  refine sY hf hs rfl rfl rfl (Y_assign rfl rfl) ?_; clear hf; intro a hf
                  refine wpO_nil ?_
                  obtain rfl := Option.some.inj hm
                  refine wpL_ret (ret_tmp rfl hf rfl ?_)
                  exact ⟨_, rfl, rfl, hs.sel [] (by decide)⟩
                · have hm := bif_f hm hb78
                  refine wpL_skip ?_
                  refine wpL_seq ?_
                  refine wpL_region ?_
                  refine sY hf hs rfl rfl rfl (Y_load_blkS rfl rfl (i := 0) rfl ag24 ti24 rfl) ?_; clear hf; intro a hf
                  obtain ⟨r79, hc80, hm⟩ := bind_some hm
                  refine sCall hf rfl rfl rfl rfl (cap := []) rfl rfl en18 (laws_toEventGraph_ok F p0 A_p0_1 p0.Places.length c_p0_1 rfl _ _ hc80 (h_p0_1.at hs)) ?_; clear hf
                  rintro _ w ⟨A81, n82, c83, rfl, hn84, hs1⟩ a hf
                  have hs : St [] W w [.blk b1 24 [.int .i64 p0.Events, .slice A_p0_1 p0.Places.length c_p0_1], .row A13 n14 c15 2 1 (ints r11.1), .row A26 n27 c28 2 1 (ints r72.2), .row A81 n82 c83 120 4 ((recs GPlace.cells) r79.Places)] := hs.join hs1
                  clear hs1
                  refine sY hf hs rfl rfl rfl (Y_move rfl rfl) ?_; clear hf; intro a hf
                  obtain ⟨r85, hc86, hm⟩ := bind_some hm
                  refine sCall hf rfl rfl rfl rfl (cap := []) rfl rfl en34 (impl_ConflictCircuit_ok F r79 A81 n82 c83 hn84 p1 _ _ hc86 (hs.rd (i := 3) rfl)) ?_; clear hf
                  rintro _ w ⟨A87, n88, c89, rfl, hn90, hs1⟩ a hf
                  have hs : St [] W w [.blk b1 24 [.int .i64 p0.Events, .slice A_p0_1 p0.Places.length c_p0_1], .row A13 n14 c15 2 1 (ints r11.1), .row A26 n27 c28 2 1 (ints r72.2), .row A81 n82 c83 120 4 ((recs GPlace.cells) r79.Places), .row A87 n88 c89 2 1 (ints r85.1)] := hs.join hs1
                  clear hs1
                  refine sY hf hs rfl rfl rfl (Y_move rfl rfl) ?_; clear hf; intro a hf
                  refine sY hf hs rfl rfl rfl (Y_extract rfl rfl rfl) ?_; clear hf; intro a hf
                  refine sY hf hs rfl rfl rfl (Y_extract rfl rfl rfl) ?_; clear hf; intro a hf
                  refine sY hf hs rfl rfl rfl (Y_assign rfl rfl) ?_; clear hf; intro a hf
                  refine sY hf hs rfl rfl rfl (Y_assign rfl rfl) ?_; clear hf; intro a hf
                  refine wpO_nil ?_
                  refine wpL_seq ?_
                  refine wpL_seq ?_
                  obtain ⟨r95, hj96, hm⟩ := bind_some hm
                  refine wpL_cut (fun a w => ∃ b94 : Bool, b94 = r95 ∧ Fr a 101 [(9, .slice A26 n27 c28), (12, .int .i64 r72.1), (92, .bool b94)] ∧ St [] W w [.row A26 n27 c28 2 1 (ints r72.2)]) ?_ ?_
                  · refine wpL_region ?_
                    refine sY hf hs rfl rfl rfl (Y_move rfl rfl) ?_; clear hf; intro a hf
                    refine sY hf hs rfl rfl rfl (Y_move rfl rfl) ?_; clear hf; intro a hf
                    obtain ⟨r97, hc98, hj96⟩ := bind_some hj96
                    refine sCall hf rfl rfl rfl rfl (cap := []) rfl rfl en25 (laws_eqInt64S_ok F r85.1 A87 n88 c89 hn90 r11.1 A13 n14 c15 hn16 _ _ hc98 (hs.rd (i := 4) rfl) (hs.rd (i := 1) rfl)) ?_; clear hf
                    rintro _ w ⟨rfl, hs1⟩ a hf
                    have hs : St [] W w [.blk b1 24 [.int .i64 p0.Events, .slice A_p0_1 p0.Places.length c_p0_1], .row A13 n14 c15 2 1 (ints r11.1), .row A26 n27 c28 2 1 (ints r72.2), .row A81 n82 c83 120 4 ((recs GPlace.cells) r79.Places), .row A87 n88 c89 2 1 (ints r85.1)] := hs.ext hs1.below
                    clear hs1
                    refine sY hf hs rfl rfl rfl (Y_not rfl rfl) ?_; clear hf; intro a hf
                    refine sY hf hs rfl rfl rfl (Y_move rfl rfl) ?_; clear hf; intro a hf
                    refine bsplit (!r97) (fun hb99 => ?_) (fun hb99 => ?_)
                    · have hj96 := bif_t hj96 hb99
                      refine sNo hf rfl rfl rfl (congrArg (fun b => some (Value.bool b)) hb99) rfl rfl rfl ?_; clear hf; intro a hf
                      refine sNo hf rfl rfl rfl (congrArg (fun b => some (Value.bool b)) hb99) rfl rfl rfl ?_; clear hf; intro a hf
                      refine sNo hf rfl rfl rfl (congrArg (fun b => some (Value.bool b)) hb99) rfl rfl rfl ?_; clear hf; intro a hf
                      refine sY hf hs rfl rfl rfl (Y_pickT rfl (congrArg (fun b => some (Value.bool b)) hb99) rfl) ?_; clear hf; intro a hf
                      refine wpO_nil ?_
                      refine wpL_nil (then_normal ?_)
                      exact ⟨true, Option.some.inj hj96, (Fr.pick (Fr.pick (Fr.pick hf.none hf rfl) hf rfl) hf rfl), hs.sel [2] (by decide)⟩
                    · have hj96 := bif_f hj96 hb99
                      refine sYg hf hs rfl rfl rfl (congrArg (fun b => some (Value.bool b)) hb99) rfl rfl rfl (Y_move rfl rfl) ?_; clear hf; intro a hf
                      refine sYg hf hs rfl rfl rfl (congrArg (fun b => some (Value.bool b)) hb99) rfl rfl rfl (Y_move rfl rfl) ?_; clear hf; intro a hf
                      refine sYg hf hs rfl rfl rfl (congrArg (fun b => some (Value.bool b)) hb99) rfl rfl rfl (Y_neq rfl rfl rfl) ?_; clear hf; intro a hf
                      refine sY hf hs rfl rfl rfl (Y_pickF rfl (congrArg (fun b => some (Value.bool b)) hb99) rfl) ?_; clear hf; intro a hf
                      refine wpO_nil ?_
                      refine wpL_nil (then_normal ?_)
                      exact ⟨(r85.2 != r11.2), Option.some.inj hj96, (Fr.pick (Fr.pick (Fr.pick hf.none hf rfl) hf rfl) hf rfl), hs.sel [2] (by decide)⟩
                  · rintro a w ⟨b94, hr_, hf, hs⟩
                    subst hr_
                    try dsimp only at hm
                    refine wpL_cond hf rfl (fun hb100 => ?_) (fun hb100 => ?_)
                    · have hm := bif_t hm hb100
                      refine wpL_seq ?_
                      refine wpL_region ?_
                      refine sY hf hs rfl rfl rfl (Y_assign rfl rfl) ?_; clear hf; intro a hf
                      refine wpO_nil ?_
                      obtain rfl := Option.some.inj hm
                      refine wpL_ret (ret_tmp rfl hf rfl ?_)
                      exact ⟨_, rfl, rfl, hs.sel [] (by decide)⟩
                    · have hm := bif_f hm hb100
                      refine wpL_skip ?_
                      refine wpL_seq ?_
                      refine wpL_region ?_
                      refine sY hf hs rfl rfl rfl (Y_assign rfl rfl) ?_; clear hf; intro a hf
                      refine wpO_nil ?_
                      refine wpL_seq ?_
                      refine wpL_region ?_
                      refine sY hf hs rfl rfl rfl (Y_move rfl rfl) ?_; clear hf; intro a hf
                      refine sY hf hs rfl rfl rfl (Y_move rfl rfl) ?_; clear hf; intro a hf
                      obtain ⟨r101, hc102, hm⟩ := bind_some hm
                      refine sCall hf rfl rfl rfl rfl (cap := []) rfl rfl en29 (laws_heldInt64S_ok F r72.2 A26 n27 c28 hn74 1 _ _ hc102 (hs.rd (i := 0) rfl)) ?_; clear hf
                      rintro _ w ⟨rfl, hs1⟩ a hf
                      have hs : St [] W w [.row A26 n27 c28 2 1 (ints r72.2)] := hs.ext hs1.below
                      clear hs1
                      refine sY hf hs rfl rfl rfl (Y_assign rfl rfl) ?_; clear hf; intro a hf
                      refine wpO_nil ?_
                      refine wpL_seq ?_
                      refine wpL_seq ?_
                      refine wpL_region ?_
                      refine sY hf hs rfl rfl rfl (Y_move rfl rfl) ?_; clear hf; intro a hf
                      refine sY hf hs rfl rfl rfl (Y_lss rfl rfl rfl) ?_; clear hf; intro a hf
                      refine wpO_nil ?_
                      refine wpL_cond hf rfl (fun hb103 => ?_) (fun hb103 => ?_)
                      · have hm := bif_t hm hb103
                        refine wpL_seq ?_
                        refine wpL_region ?_
                        refine sY hf hs rfl rfl rfl (Y_assign rfl rfl) ?_; clear hf; intro a hf
                        refine wpO_nil ?_
                        obtain rfl := Option.some.inj hm
                        refine wpL_ret (ret_tmp rfl hf rfl ?_)
                        exact ⟨_, rfl, rfl, hs.sel [] (by decide)⟩
                      · have hm := bif_f hm hb103
                        refine wpL_skip ?_
                        refine wpL_seq ?_
                        refine wpL_seq ?_
                        refine wpL_region ?_
                        refine sY hf hs rfl rfl rfl (Y_move rfl rfl) ?_; clear hf; intro a hf
                        refine sY hf hs rfl rfl rfl (Y_move rfl rfl) ?_; clear hf; intro a hf
                        refine sY hf hs rfl rfl rfl (Y_neq rfl rfl rfl) ?_; clear hf; intro a hf
                        refine wpO_nil ?_
                        refine wpL_cond hf rfl (fun hb104 => ?_) (fun hb104 => ?_)
                        · have hm := bif_t hm hb104
                          refine wpL_seq ?_
                          refine wpL_region ?_
                          refine sY hf hs rfl rfl rfl (Y_assign rfl rfl) ?_; clear hf; intro a hf
                          refine wpO_nil ?_
                          obtain rfl := Option.some.inj hm
                          refine wpL_ret (ret_tmp rfl hf rfl ?_)
                          exact ⟨_, rfl, rfl, hs.sel [] (by decide)⟩
                        · have hm := bif_f hm hb104
                          refine wpL_skip ?_
                          refine wpL_seq ?_
                          refine wpL_region ?_
                          refine sY hf hs rfl rfl rfl (Y_assign rfl rfl) ?_; clear hf; intro a hf
                          refine wpO_nil ?_
                          obtain rfl := Option.some.inj hm
                          refine wpL_ret (ret_tmp rfl hf rfl ?_)
                          exact ⟨_, rfl, rfl, hs.sel [] (by decide)⟩

end Go.Proofs.Ytmijmamolmoheaa
