/- The functions do what their models say. -/
import Derived.Test.YtlpigpplfaehbaaSplitPlaceLifted1
import Derived.Test.YtlpigpplfaehbaaRows
namespace Go.Proofs.Ytlpigpplfaehbaa
open Go.RowKit

set_option maxRecDepth 100000 in
theorem laws_FnExactSplitPlace_ok (F : Nat) (p0 : LEventGraph) (A_p0_1 : Option Addr) (n_p0_1 c_p0_1 : Nat) (hn_p0_1 : n_p0_1 = p0.Places.length) (p1 : Int) (p2 : Int) (r : Bool) (W : World) (hm : laws_FnExactSplitPlace F p0 p1 p2 = some r) (h_p0_1 : Rd W A_p0_1 ((recs LPlace.cells) p0.Places)) :
    Calls Try.prog 4 [.agg #[.int .i64 p0.Events, .slice A_p0_1 n_p0_1 c_p0_1], .int .i64 p1, .int .i64 p2].toArray W fun e w' => ∃ v, e = .returned v ∧ v = .bool r ∧ St [] W w' [] := by
  subst hn_p0_1
  unfold laws_FnExactSplitPlace at hm
  refine Calls.enter (N := 106) Try.func4 rfl rfl rfl (fun a hf => ?_)
  have hs := St.start W
  obtain ⟨w, hw_⟩ : ∃ w, w = W := ⟨W, rfl⟩
  clear hw_ w
  refine wpL_seq ?_
  refine wpL_region ?_
  refine sBox hf hs rfl rfl rfl rfl rfl (cs := [.int .i64 p0.Events, .slice A_p0_1 p0.Places.length c_p0_1]) rfl ?_; clear hf hs; intro a w b1 hs hf
  have hs : St [] W w [.blk b1 24 [.int .i64 p0.Events, .slice A_p0_1 p0.Places.length c_p0_1]] := hs
  refine sY hf hs rfl rfl rfl (Y_assign rfl rfl) ?_; clear hf; intro a hf
  refine wpO_nil ?_
  refine wpL_seq ?_
  refine wpL_region ?_
  refine sY hf hs rfl rfl rfl (Y_assign rfl rfl) ?_; clear hf; intro a hf
  refine wpO_nil ?_
  refine wpL_seq ?_
  refine wpL_region ?_
  refine sY hf hs rfl rfl rfl (Y_load_blkS rfl rfl (i := 0) rfl ag24 ti24 rfl) ?_; clear hf; intro a hf
  refine sY hf hs rfl rfl rfl (Y_move rfl rfl) ?_; clear hf; intro a hf
  obtain ⟨r2, hc3, hm⟩ := bind_some hm
  refine sCall hf rfl rfl rfl rfl (cap := []) rfl rfl en15 (laws_szEventGraph_ok F p0 A_p0_1 p0.Places.length c_p0_1 rfl 1048576 _ _ hc3 (h_p0_1.at hs)) ?_; clear hf
  rintro _ w ⟨rfl, hs1⟩ a hf
  have hs : St [] W w [.blk b1 24 [.int .i64 p0.Events, .slice A_p0_1 p0.Places.length c_p0_1]] := hs.ext hs1.below
  clear hs1
  refine sY hf hs rfl rfl rfl (Y_assign rfl rfl) ?_; clear hf; intro a hf
  refine wpO_nil ?_
  refine wpL_seq ?_
  refine wpL_seq ?_
  refine wpL_region ?_
  refine sY hf hs rfl rfl rfl (Y_move rfl rfl) ?_; clear hf; intro a hf
  refine sY hf hs rfl rfl rfl (Y_lss rfl rfl rfl) ?_; clear hf; intro a hf
  refine wpO_nil ?_
  refine wpL_cond hf rfl (fun hb4 => ?_) (fun hb4 => ?_)
  · have hm := bif_t hm hb4
    refine wpL_seq ?_
    refine wpL_region ?_
    refine sY hf hs rfl rfl rfl (Y_assign rfl rfl) ?_; clear hf; intro a hf
    refine wpO_nil ?_
    obtain rfl := Option.some.inj hm
    refine wpL_ret (ret_tmp rfl hf rfl ?_)
    exact ⟨_, rfl, rfl, hs.sel [] (by decide)⟩
  · have hm := bif_f hm hb4
    refine wpL_skip ?_
    refine wpL_seq ?_
    refine wpL_region ?_
    refine sY hf hs rfl rfl rfl (Y_load_blkS rfl rfl (i := 0) rfl ag24 ti24 rfl) ?_; clear hf; intro a hf
    obtain ⟨r5, hc6, hm⟩ := bind_some hm
    refine sCall hf rfl rfl rfl rfl (cap := []) rfl rfl en17 (laws_toEventGraph_ok F p0 A_p0_1 p0.Places.length c_p0_1 rfl _ _ hc6 (h_p0_1.at hs)) ?_; clear hf
    rintro _ w ⟨A7, n8, c9, rfl, hn10, hs1⟩ a hf
    have hs : St [] W w [.blk b1 24 [.int .i64 p0.Events, .slice A_p0_1 p0.Places.length c_p0_1], .row A7 n8 c9 85 4 ((recs GPlace.cells) r5.Places)] := hs.join hs1
    clear hs1
    refine sY hf hs rfl rfl rfl (Y_move rfl rfl) ?_; clear hf; intro a hf
    refine sY hf hs rfl rfl rfl (Y_move rfl rfl) ?_; clear hf; intro a hf
    obtain ⟨r11, hc12, hm⟩ := bind_some hm
    refine sCall hf rfl rfl rfl rfl (cap := []) rfl rfl en22 (spec_SplitPlace_ok F r5 A7 n8 c9 hn10 p1 p2 _ _ hc12 (hs.rd (i := 1) rfl)) ?_; clear hf
    rintro _ w ⟨A13, n14, c15, rfl, hn16, hs1⟩ a hf
    have hs : St [] W w [.blk b1 24 [.int .i64 p0.Events, .slice A_p0_1 p0.Places.length c_p0_1], .row A7 n8 c9 85 4 ((recs GPlace.cells) r5.Places), .row A13 n14 c15 85 4 ((recs GPlace.cells) r11.1.Places)] := hs.join hs1
    clear hs1
    refine sY hf hs rfl rfl rfl (Y_move rfl rfl) ?_; clear hf; intro a hf
    refine sY hf hs rfl rfl rfl (Y_extract rfl rfl rfl) ?_; clear hf; intro a hf
    refine sY hf hs rfl rfl rfl (Y_extract rfl rfl rfl) ?_; clear hf; intro a hf
    refine sAlloc hf hs rfl rfl rfl rfl ti28 ?_; clear hf hs; intro a w b17 hs hf
    have hs : St [] W w [.blk b1 24 [.int .i64 p0.Events, .slice A_p0_1 p0.Places.length c_p0_1], .row A7 n8 c9 85 4 ((recs GPlace.cells) r5.Places), .row A13 n14 c15 85 4 ((recs GPlace.cells) r11.1.Places), .blk b17 28 [.int .i64 0, .slice none 0 0]] := hs
    refine sStore (i := 3) (us := [.int .i64 r11.1.Events, .slice A13 n14 c15]) hf hs rfl rfl rfl rfl rfl rfl ti28 rfl rfl rfl (Nat.le_of_ble_eq_true rfl) rfl ?_; clear hs; intro w hs
    have hs : St [] W w [.blk b1 24 [.int .i64 p0.Events, .slice A_p0_1 p0.Places.length c_p0_1], .row A7 n8 c9 85 4 ((recs GPlace.cells) r5.Places), .row A13 n14 c15 85 4 ((recs GPlace.cells) r11.1.Places), .blk b17 28 [.int .i64 r11.1.Events, .slice A13 n14 c15]] := hs
    refine sY hf hs rfl rfl rfl (Y_assign rfl rfl) ?_; clear hf; intro a hf
    refine wpO_nil ?_
    refine wpL_seq ?_
    refine wpL_region ?_
    refine sY hf hs rfl rfl rfl (Y_load_blkS rfl rfl (i := 0) rfl ag24 ti24 rfl) ?_; clear hf; intro a hf
    obtain ⟨r18, hc19, hm⟩ := bind_some hm
    refine sCall hf rfl rfl rfl rfl (cap := []) rfl rfl en17 (laws_toEventGraph_ok F p0 A_p0_1 p0.Places.length c_p0_1 rfl _ _ hc19 (h_p0_1.at hs)) ?_; clear hf
    rintro _ w ⟨A20, n21, c22, rfl, hn23, hs1⟩ a hf
    have hs : St [] W w [.blk b1 24 [.int .i64 p0.Events, .slice A_p0_1 p0.Places.length c_p0_1], .row A7 n8 c9 85 4 ((recs GPlace.cells) r5.Places), .row A13 n14 c15 85 4 ((recs GPlace.cells) r11.1.Places), .blk b17 28 [.int .i64 r11.1.Events, .slice A13 n14 c15], .row A20 n21 c22 85 4 ((recs GPlace.cells) r18.Places)] := hs.join hs1
    clear hs1
    refine sAlloc hf hs rfl rfl rfl rfl ti28 ?_; clear hf hs; intro a w b24 hs hf
    have hs : St [] W w [.blk b1 24 [.int .i64 p0.Events, .slice A_p0_1 p0.Places.length c_p0_1], .row A7 n8 c9 85 4 ((recs GPlace.cells) r5.Places), .row A13 n14 c15 85 4 ((recs GPlace.cells) r11.1.Places), .blk b17 28 [.int .i64 r11.1.Events, .slice A13 n14 c15], .row A20 n21 c22 85 4 ((recs GPlace.cells) r18.Places), .blk b24 28 [.int .i64 0, .slice none 0 0]] := hs
    refine sStore (i := 5) (us := [.int .i64 r18.Events, .slice A20 n21 c22]) hf hs rfl rfl rfl rfl rfl rfl ti28 rfl rfl rfl (Nat.le_of_ble_eq_true rfl) rfl ?_; clear hs; intro w hs
    have hs : St [] W w [.blk b1 24 [.int .i64 p0.Events, .slice A_p0_1 p0.Places.length c_p0_1], .row A7 n8 c9 85 4 ((recs GPlace.cells) r5.Places), .row A13 n14 c15 85 4 ((recs GPlace.cells) r11.1.Places), .blk b17 28 [.int .i64 r11.1.Events, .slice A13 n14 c15], .row A20 n21 c22 85 4 ((recs GPlace.cells) r18.Places), .blk b24 28 [.int .i64 r18.Events, .slice A20 n21 c22]] := hs
    refine wpO_nil ?_
    refine wpL_seq ?_
    refine wpL_region ?_
    refine sY hf hs rfl rfl rfl (Y_load_blkS rfl rfl (i := 5) rfl ag28 ti28 rfl) ?_; clear hf; intro a hf
    refine sY hf hs rfl rfl rfl (Y_move rfl rfl) ?_; clear hf; intro a hf
    refine sY hf hs rfl rfl rfl (Y_move rfl rfl) ?_; clear hf; intro a hf
    obtain ⟨r25, hc26, hm⟩ := bind_some hm
    refine sCall hf rfl rfl rfl rfl (cap := []) rfl rfl en23 (impl_SplitPlace_ok F r18 A20 n21 c22 hn23 p1 p2 _ _ hc26 (hs.rd (i := 4) rfl)) ?_; clear hf
    rintro _ w ⟨A27, n28, c29, rfl, hn30, hs1⟩ a hf
    have hs : St [] W w [.blk b1 24 [.int .i64 p0.Events, .slice A_p0_1 p0.Places.length c_p0_1], .row A7 n8 c9 85 4 ((recs GPlace.cells) r5.Places), .row A13 n14 c15 85 4 ((recs GPlace.cells) r11.1.Places), .blk b17 28 [.int .i64 r11.1.Events, .slice A13 n14 c15], .row A20 n21 c22 85 4 ((recs GPlace.cells) r18.Places), .blk b24 28 [.int .i64 r18.Events, .slice A20 n21 c22], .row A27 n28 c29 85 4 ((recs GPlace.cells) r25.1.Places)] := hs.join hs1
    clear hs1
    refine sY hf hs rfl rfl rfl (Y_move rfl rfl) ?_; clear hf; intro a hf
    refine sY hf hs rfl rfl rfl (Y_extract rfl rfl rfl) ?_; clear hf; intro a hf
    refine sY hf hs rfl rfl rfl (Y_extract rfl rfl rfl) ?_; clear hf; intro a hf
    refine sAlloc hf hs rfl rfl rfl rfl ti28 ?_; clear hf hs; intro a w b31 hs hf
    have hs : St [] W w [.blk b1 24 [.int .i64 p0.Events, .slice A_p0_1 p0.Places.length c_p0_1], .row A7 n8 c9 85 4 ((recs GPlace.cells) r5.Places), .row A13 n14 c15 85 4 ((recs GPlace.cells) r11.1.Places), .blk b17 28 [.int .i64 r11.1.Events, .slice A13 n14 c15], .row A20 n21 c22 85 4 ((recs GPlace.cells) r18.Places), .blk b24 28 [.int .i64 r18.Events, .slice A20 n21 c22], .row A27 n28 c29 85 4 ((recs GPlace.cells) r25.1.Places), .blk b31 28 [.int .i64 0, .slice none 0 0]] := hs
    refine sStore (i := 7) (us := [.int .i64 r25.1.Events, .slice A27 n28 c29]) hf hs rfl rfl rfl rfl rfl rfl ti28 rfl rfl rfl (Nat.le_of_ble_eq_true rfl) rfl ?_; clear hs; intro w hs
    have hs : St [] W w [.blk b1 24 [.int .i64 p0.Events, .slice A_p0_1 p0.Places.length c_p0_1], .row A7 n8 c9 85 4 ((recs GPlace.cells) r5.Places), .row A13 n14 c15 85 4 ((recs GPlace.cells) r11.1.Places), .blk b17 28 [.int .i64 r11.1.Events, .slice A13 n14 c15], .row A20 n21 c22 85 4 ((recs GPlace.cells) r18.Places), .blk b24 28 [.int .i64 r18.Events, .slice A20 n21 c22], .row A27 n28 c29 85 4 ((recs GPlace.cells) r25.1.Places), .blk b31 28 [.int .i64 r25.1.Events, .slice A27 n28 c29]] := hs
    refine sY hf hs rfl rfl rfl (Y_assign rfl rfl) ?_; clear hf; intro a hf
    refine wpO_nil ?_
    refine wpL_seq ?_
    refine wpL_seq ?_
    obtain ⟨r36, hj37, hm⟩ := bind_some hm
    refine wpL_cut (fun a w => ∃ b35 : Bool, b35 = r36 ∧ Fr a 106 [(1, .int .i64 p1), (2, .int .i64 p2), (3, .pointer (some ⟨b1, 0, none⟩)), (8, .pointer (some ⟨b17, 0, none⟩)), (9, .int .i64 r11.2), (10, .pointer (some ⟨b24, 0, none⟩)), (11, .pointer (some ⟨b31, 0, none⟩)), (12, .int .i64 r25.2), (48, .bool b35)] ∧ St [] W w [.blk b1 24 [.int .i64 p0.Events, .slice A_p0_1 p0.Places.length c_p0_1], .blk b17 28 [.int .i64 r11.1.Events, .slice A13 n14 c15], .row A13 n14 c15 85 4 ((recs GPlace.cells) r11.1.Places), .blk b24 28 [.int .i64 r18.Events, .slice A20 n21 c22], .row A20 n21 c22 85 4 ((recs GPlace.cells) r18.Places), .blk b31 28 [.int .i64 r25.1.Events, .slice A27 n28 c29], .row A27 n28 c29 85 4 ((recs GPlace.cells) r25.1.Places)]) ?_ ?_
    · refine wpL_region ?_
      refine sY hf hs rfl rfl rfl (Y_load_blkS rfl rfl (i := 7) rfl ag28 ti28 rfl) ?_; clear hf; intro a hf
      refine sY hf hs rfl rfl rfl (Y_load_blkS rfl rfl (i := 3) rfl ag28 ti28 rfl) ?_; clear hf; intro a hf
      obtain ⟨r38, hc39, hj37⟩ := bind_some hj37
      refine sCall hf rfl rfl rfl rfl (cap := []) rfl rfl en19 (laws_eqEventGraph_ok F (GEventGraph.mk r25.1.Events r25.1.Places) A27 n28 c29 hn30 (GEventGraph.mk r11.1.Events r11.1.Places) A13 n14 c15 hn16 _ _ hc39 (hs.rd (i := 6) rfl) (hs.rd (i := 2) rfl)) ?_; clear hf
      rintro _ w ⟨rfl, hs1⟩ a hf
      have hs : St [] W w [.blk b1 24 [.int .i64 p0.Events, .slice A_p0_1 p0.Places.length c_p0_1], .row A7 n8 c9 85 4 ((recs GPlace.cells) r5.Places), .row A13 n14 c15 85 4 ((recs GPlace.cells) r11.1.Places), .blk b17 28 [.int .i64 r11.1.Events, .slice A13 n14 c15], .row A20 n21 c22 85 4 ((recs GPlace.cells) r18.Places), .blk b24 28 [.int .i64 r18.Events, .slice A20 n21 c22], .row A27 n28 c29 85 4 ((recs GPlace.cells) r25.1.Places), .blk b31 28 [.int .i64 r25.1.Events, .slice A27 n28 c29]] := hs.ext hs1.below
      clear hs1
      refine sY hf hs rfl rfl rfl (Y_not rfl rfl) ?_; clear hf; intro a hf
      refine sY hf hs rfl rfl rfl (Y_move rfl rfl) ?_; clear hf; intro a hf
      refine bsplit (!r38) (fun hb40 => ?_) (fun hb40 => ?_)
      · have hj37 := bif_t hj37 hb40
        refine sNo hf rfl rfl rfl (congrArg (fun b => some (Value.bool b)) hb40) rfl rfl rfl ?_; clear hf; intro a hf
        refine sNo hf rfl rfl rfl (congrArg (fun b => some (Value.bool b)) hb40) rfl rfl rfl ?_; clear hf; intro a hf
        refine sNo hf rfl rfl rfl (congrArg (fun b => some (Value.bool b)) hb40) rfl rfl rfl ?_; clear hf; intro a hf
        refine sY hf hs rfl rfl rfl (Y_pickT rfl (congrArg (fun b => some (Value.bool b)) hb40) rfl) ?_; clear hf; intro a hf
        refine wpO_nil ?_
        refine wpL_nil (then_normal ?_)
        exact ⟨true, Option.some.inj hj37, (Fr.pick (Fr.pick (Fr.pick (Fr.pick (Fr.pick (Fr.pick (Fr.pick (Fr.pick (Fr.pick hf.none hf rfl) hf rfl) hf rfl) hf rfl) hf rfl) hf rfl) hf rfl) hf rfl) hf rfl), hs.sel [0, 3, 2, 5, 4, 7, 6] (by decide)⟩
      · have hj37 := bif_f hj37 hb40
        refine sYg hf hs rfl rfl rfl (congrArg (fun b => some (Value.bool b)) hb40) rfl rfl rfl (Y_move rfl rfl) ?_; clear hf; intro a hf
        refine sYg hf hs rfl rfl rfl (congrArg (fun b => some (Value.bool b)) hb40) rfl rfl rfl (Y_move rfl rfl) ?_; clear hf; intro a hf
        refine sYg hf hs rfl rfl rfl (congrArg (fun b => some (Value.bool b)) hb40) rfl rfl rfl (Y_neq rfl rfl rfl) ?_; clear hf; intro a hf
        refine sY hf hs rfl rfl rfl (Y_pickF rfl (congrArg (fun b => some (Value.bool b)) hb40) rfl) ?_; clear hf; intro a hf
        refine wpO_nil ?_
        refine wpL_nil (then_normal ?_)
        exact ⟨(r25.2 != r11.2), Option.some.inj hj37, (Fr.pick (Fr.pick (Fr.pick (Fr.pick (Fr.pick (Fr.pick (Fr.pick (Fr.pick (Fr.pick hf.none hf rfl) hf rfl) hf rfl) hf rfl) hf rfl) hf rfl) hf rfl) hf rfl) hf rfl), hs.sel [0, 3, 2, 5, 4, 7, 6] (by decide)⟩
    · rintro a w ⟨b35, hr_, hf, hs⟩
      subst hr_
      try dsimp only at hm
      refine wpL_cond hf rfl (fun hb41 => ?_) (fun hb41 => ?_)
      · have hm := bif_t hm hb41
        refine wpL_seq ?_
        refine wpL_region ?_
        refine sY hf hs rfl rfl rfl (Y_assign rfl rfl) ?_; clear hf; intro a hf
        refine wpO_nil ?_
        obtain rfl := Option.some.inj hm
        refine wpL_ret (ret_tmp rfl hf rfl ?_)
        exact ⟨_, rfl, rfl, hs.sel [] (by decide)⟩
      · have hm := bif_f hm hb41
        refine wpL_skip ?_
        refine wpL_seq ?_
        refine wpL_seq ?_
        refine wpL_drawG [.blk b1 24 [.int .i64 p0.Events, .slice A_p0_1 p0.Places.length c_p0_1], .blk b17 28 [.int .i64 r11.1.Events, .slice A13 n14 c15], .row A13 n14 c15 85 4 ((recs GPlace.cells) r11.1.Places), .blk b24 28 [.int .i64 r18.Events, .slice A20 n21 c22], .row A20 n21 c22 85 4 ((recs GPlace.cells) r18.Places), .blk b31 28 [.int .i64 r25.1.Events, .slice A27 n28 c29], .row A27 n28 c29 85 4 ((recs GPlace.cells) r25.1.Places)] 5 (by kernel_rfl) hs ?_; clear hs; intro w hs
        have hs0 : St [] W w [.blk b1 24 [.int .i64 p0.Events, .slice A_p0_1 p0.Places.length c_p0_1], .blk b17 28 [.int .i64 r11.1.Events, .slice A13 n14 c15], .row A13 n14 c15 85 4 ((recs GPlace.cells) r11.1.Places), .blk b24 28 [.int .i64 r18.Events, .slice A20 n21 c22], .row A20 n21 c22 85 4 ((recs GPlace.cells) r18.Places), .blk b31 28 [.int .i64 r25.1.Events, .slice A27 n28 c29], .row A27 n28 c29 85 4 ((recs GPlace.cells) r25.1.Places)] := hs
        refine gY (i := 0) [] rfl (by kernel_rfl) (by kernel_rfl) hf hs0 rfl rfl rfl (Y_load_blkS rfl rfl (i := 3) rfl ag28 ti28 rfl) ?_; clear hf; intro a hf
        refine gY (i := 1) [] rfl (by kernel_rfl) (by kernel_rfl) hf hs0 rfl rfl rfl (Y_load_blkS rfl rfl (i := 0) rfl ag24 ti24 rfl) ?_; clear hf; intro a hf
        refine gRun (i := 2) rfl (by kernel_rfl) ?_
        obtain ⟨r50, hc51, hm⟩ := bind_some hm
        refine sCall hf rfl rfl rfl rfl (cap := []) rfl rfl en17 (laws_toEventGraph_ok F p0 A_p0_1 p0.Places.length c_p0_1 rfl _ _ hc51 (h_p0_1.at hs)) ?_; clear hf
        rintro _ w ⟨A52, n53, c54, rfl, hn55, hs1⟩ a hf
        have hs : St [] W w [.blk b1 24 [.int .i64 p0.Events, .slice A_p0_1 p0.Places.length c_p0_1], .blk b17 28 [.int .i64 r11.1.Events, .slice A13 n14 c15], .row A13 n14 c15 85 4 ((recs GPlace.cells) r11.1.Places), .blk b24 28 [.int .i64 r18.Events, .slice A20 n21 c22], .row A20 n21 c22 85 4 ((recs GPlace.cells) r18.Places), .blk b31 28 [.int .i64 r25.1.Events, .slice A27 n28 c29], .row A27 n28 c29 85 4 ((recs GPlace.cells) r25.1.Places), .row A52 n53 c54 85 4 ((recs GPlace.cells) r50.Places)] := hs.join hs1
        clear hs1
        have hs0 : St [] W w [.blk b1 24 [.int .i64 p0.Events, .slice A_p0_1 p0.Places.length c_p0_1], .blk b17 28 [.int .i64 r11.1.Events, .slice A13 n14 c15], .row A13 n14 c15 85 4 ((recs GPlace.cells) r11.1.Places), .blk b24 28 [.int .i64 r18.Events, .slice A20 n21 c22], .row A20 n21 c22 85 4 ((recs GPlace.cells) r18.Places), .blk b31 28 [.int .i64 r25.1.Events, .slice A27 n28 c29], .row A27 n28 c29 85 4 ((recs GPlace.cells) r25.1.Places)] := hs.sel [0, 1, 2, 3, 4, 5, 6] (by decide)
        refine wpO_nil ⟨Or.inr hs0, ?_⟩
        refine gRun (i := 3) rfl (by kernel_rfl) ?_
        obtain ⟨r56, hc57, hm⟩ := bind_some hm
        refine sCall hf rfl rfl rfl rfl (cap := []) rfl rfl en19 (laws_eqEventGraph_ok F r18 A20 n21 c22 hn23 r50 A52 n53 c54 hn55 _ _ hc57 (hs.rd (i := 4) rfl) (hs.rd (i := 7) rfl)) ?_; clear hf
        rintro _ w ⟨rfl, hs1⟩ a hf
        have hs : St [] W w [.blk b1 24 [.int .i64 p0.Events, .slice A_p0_1 p0.Places.length c_p0_1], .blk b17 28 [.int .i64 r11.1.Events, .slice A13 n14 c15], .row A13 n14 c15 85 4 ((recs GPlace.cells) r11.1.Places), .blk b24 28 [.int .i64 r18.Events, .slice A20 n21 c22], .row A20 n21 c22 85 4 ((recs GPlace.cells) r18.Places), .blk b31 28 [.int .i64 r25.1.Events, .slice A27 n28 c29], .row A27 n28 c29 85 4 ((recs GPlace.cells) r25.1.Places), .row A52 n53 c54 85 4 ((recs GPlace.cells) r50.Places)] := hs.ext hs1.below
        clear hs1
        have hs0 : St [] W w [.blk b1 24 [.int .i64 p0.Events, .slice A_p0_1 p0.Places.length c_p0_1], .blk b17 28 [.int .i64 r11.1.Events, .slice A13 n14 c15], .row A13 n14 c15 85 4 ((recs GPlace.cells) r11.1.Places), .blk b24 28 [.int .i64 r18.Events, .slice A20 n21 c22], .row A20 n21 c22 85 4 ((recs GPlace.cells) r18.Places), .blk b31 28 [.int .i64 r25.1.Events, .slice A27 n28 c29], .row A27 n28 c29 85 4 ((recs GPlace.cells) r25.1.Places)] := hs.sel [0, 1, 2, 3, 4, 5, 6] (by decide)
        refine wpO_nil ⟨Or.inr hs0, ?_⟩
        refine gY (i := 4) [] rfl (by kernel_rfl) (by kernel_rfl) hf hs0 rfl rfl rfl (Y_not rfl rfl) ?_; clear hf; intro a hf
        refine gDone (by kernel_rfl) ?_
        clear hs0
        refine wpL_cond hf rfl (fun hb58 => ?_) (fun hb58 => ?_)
        · have hm := bif_t hm hb58
          refine wpL_seq ?_
          refine wpL_region ?_
          refine sY hf hs rfl rfl rfl (Y_assign rfl rfl) ?_; clear hf; intro a hf
          refine wpO_nil ?_
          obtain rfl := Option.some.inj hm
          refine wpL_ret (ret_tmp rfl hf rfl ?_)
          exact ⟨_, rfl, rfl, hs.sel [] (by decide)⟩
        · have hm := bif_f hm hb58
          refine wpL_skip ?_
          refine wpL_seq ?_
          refine wpL_region ?_
          refine sY hf hs rfl rfl rfl (Y_assign rfl rfl) ?_; clear hf; intro a hf
          refine wpO_nil ?_
          refine wpL_seq ?_
          refine wpL_region ?_
          refine sY hf hs rfl rfl rfl (Y_load_blkS rfl rfl (i := 3) rfl ag28 ti28 rfl) ?_; clear hf; intro a hf
          refine sY hf hs rfl rfl rfl (Y_move rfl rfl) ?_; clear hf; intro a hf
          obtain ⟨r59, hc60, hm⟩ := bind_some hm
          refine sCall hf rfl rfl rfl rfl (cap := []) rfl rfl en20 (laws_markEventGraph_ok F r18 A20 n21 c22 hn23 1 _ _ hc60 (hs.res _ _ (show _[4]? = some _ from rfl))) ?_; clear hf
          rintro _ w ⟨rfl, hn61, hs1⟩ a hf
          have hs : St [] W w [.blk b1 24 [.int .i64 p0.Events, .slice A_p0_1 p0.Places.length c_p0_1], .blk b17 28 [.int .i64 r11.1.Events, .slice A13 n14 c15], .row A13 n14 c15 85 4 ((recs GPlace.cells) r11.1.Places), .blk b24 28 [.int .i64 r18.Events, .slice A20 n21 c22], .row A20 n21 c22 85 4 ((recs GPlace.cells) r59.2), .blk b31 28 [.int .i64 r25.1.Events, .slice A27 n28 c29], .row A27 n28 c29 85 4 ((recs GPlace.cells) r25.1.Places), .row A52 n53 c54 85 4 ((recs GPlace.cells) r50.Places)] := hs.mut (i := 4) rfl (fun b hb => muA_mem hb) hs1
          clear hs1
          refine sY hf hs rfl rfl rfl (Y_assign rfl rfl) ?_; clear hf; intro a hf
          refine wpO_nil ?_
          refine wpL_seq ?_
          refine wpL_seq ?_
          obtain ⟨r67, hj68, hm⟩ := bind_some hm
          refine wpL_cut (fun a w => ∃ b66 : Bool, b66 = r67 ∧ Fr a 106 [(1, .int .i64 p1), (2, .int .i64 p2), (3, .pointer (some ⟨b1, 0, none⟩)), (8, .pointer (some ⟨b17, 0, none⟩)), (9, .int .i64 r11.2), (11, .pointer (some ⟨b31, 0, none⟩)), (69, .bool b66)] ∧ St [] W w [.blk b1 24 [.int .i64 p0.Events, .slice A_p0_1 p0.Places.length c_p0_1], .blk b17 28 [.int .i64 r11.1.Events, .slice A13 n14 c15], .row A13 n14 c15 85 4 ((recs GPlace.cells) r11.1.Places), .blk b31 28 [.int .i64 r25.1.Events, .slice A27 n28 c29], .row A27 n28 c29 85 4 ((recs GPlace.cells) r25.1.Places)]) ?_ ?_
          · refine wpL_region ?_
            refine sY hf hs rfl rfl rfl (Y_move rfl rfl) ?_; clear hf; intro a hf
            refine sY hf hs rfl rfl rfl (Y_lss rfl rfl rfl) ?_; clear hf; intro a hf
            refine sY hf hs rfl rfl rfl (Y_move rfl rfl) ?_; clear hf; intro a hf
            refine bsplit (decide (r59.1 < 0)) (fun hb69 => ?_) (fun hb69 => ?_)
            · have hj68 := bif_t hj68 hb69
              refine sNo hf rfl rfl rfl (congrArg (fun b => some (Value.bool b)) hb69) rfl rfl rfl ?_; clear hf; intro a hf
              refine sNo hf rfl rfl rfl (congrArg (fun b => some (Value.bool b)) hb69) rfl rfl rfl ?_; clear hf; intro a hf
              refine sNo hf rfl rfl rfl (congrArg (fun b => some (Value.bool b)) hb69) rfl rfl rfl ?_; clear hf; intro a hf
              refine sNo hf rfl rfl rfl (congrArg (fun b => some (Value.bool b)) hb69) rfl rfl rfl ?_; clear hf; intro a hf
              refine sY hf hs rfl rfl rfl (Y_pickT rfl (congrArg (fun b => some (Value.bool b)) hb69) rfl) ?_; clear hf; intro a hf
              refine sY hf hs rfl rfl rfl (Y_move rfl rfl) ?_; clear hf; intro a hf
              refine sNo hf rfl rfl rfl rfl rfl rfl rfl ?_; clear hf; intro a hf
              refine sNo hf rfl rfl rfl rfl rfl rfl rfl ?_; clear hf; intro a hf
              refine sNo hf rfl rfl rfl rfl rfl rfl rfl ?_; clear hf; intro a hf
              refine sY hf hs rfl rfl rfl (Y_pickT rfl rfl rfl) ?_; clear hf; intro a hf
              refine wpO_nil ?_
              refine wpL_nil (then_normal ?_)
              exact ⟨true, Option.some.inj hj68, (Fr.pick (Fr.pick (Fr.pick (Fr.pick (Fr.pick (Fr.pick (Fr.pick hf.none hf rfl) hf rfl) hf rfl) hf rfl) hf rfl) hf rfl) hf rfl), hs.sel [0, 1, 2, 5, 6] (by decide)⟩
            · have hj68 := bif_f hj68 hb69
              refine sYg hf hs rfl rfl rfl (congrArg (fun b => some (Value.bool b)) hb69) rfl rfl rfl (Y_load_blkS rfl rfl (i := 5) rfl ag28 ti28 rfl) ?_; clear hf; intro a hf
              refine sYg hf hs rfl rfl rfl (congrArg (fun b => some (Value.bool b)) hb69) rfl rfl rfl (Y_load_blkS rfl rfl (i := 1) rfl ag28 ti28 rfl) ?_; clear hf; intro a hf
              obtain ⟨r70, hc71, hj68⟩ := bind_some hj68
              refine sCallg hf rfl rfl rfl (congrArg (fun b => some (Value.bool b)) hb69) rfl rfl rfl rfl (cap := []) rfl rfl en19 (laws_eqEventGraph_ok F (GEventGraph.mk r25.1.Events r25.1.Places) A27 n28 c29 hn30 (GEventGraph.mk r11.1.Events r11.1.Places) A13 n14 c15 hn16 _ _ hc71 (hs.rd (i := 6) rfl) (hs.rd (i := 2) rfl)) ?_; clear hf
              rintro _ w ⟨rfl, hs1⟩ a hf
              have hs : St [] W w [.blk b1 24 [.int .i64 p0.Events, .slice A_p0_1 p0.Places.length c_p0_1], .blk b17 28 [.int .i64 r11.1.Events, .slice A13 n14 c15], .row A13 n14 c15 85 4 ((recs GPlace.cells) r11.1.Places), .blk b24 28 [.int .i64 r18.Events, .slice A20 n21 c22], .row A20 n21 c22 85 4 ((recs GPlace.cells) r59.2), .blk b31 28 [.int .i64 r25.1.Events, .slice A27 n28 c29], .row A27 n28 c29 85 4 ((recs GPlace.cells) r25.1.Places), .row A52 n53 c54 85 4 ((recs GPlace.cells) r50.Places)] := hs.ext hs1.below
              clear hs1
              refine sYg hf hs rfl rfl rfl (congrArg (fun b => some (Value.bool b)) hb69) rfl rfl rfl (Y_not rfl rfl) ?_; clear hf; intro a hf
              refine sY hf hs rfl rfl rfl (Y_pickF rfl (congrArg (fun b => some (Value.bool b)) hb69) rfl) ?_; clear hf; intro a hf
              refine sY hf hs rfl rfl rfl (Y_move rfl rfl) ?_; clear hf; intro a hf
              refine bsplit (!r70) (fun hb72 => ?_) (fun hb72 => ?_)
              · have hj68 := bif_t hj68 hb72
                refine sNo hf rfl rfl rfl (congrArg (fun b => some (Value.bool b)) hb72) rfl rfl rfl ?_; clear hf; intro a hf
                refine sNo hf rfl rfl rfl (congrArg (fun b => some (Value.bool b)) hb72) rfl rfl rfl ?_; clear hf; intro a hf
                refine sNo hf rfl rfl rfl (congrArg (fun b => some (Value.bool b)) hb72) rfl rfl rfl ?_; clear hf; intro a hf
                refine sY hf hs rfl rfl rfl (Y_pickT rfl (congrArg (fun b => some (Value.bool b)) hb72) rfl) ?_; clear hf; intro a hf
                refine wpO_nil ?_
                refine wpL_nil (then_normal ?_)
                exact ⟨true, Option.some.inj hj68, (Fr.pick (Fr.pick (Fr.pick (Fr.pick (Fr.pick (Fr.pick (Fr.pick hf.none hf rfl) hf rfl) hf rfl) hf rfl) hf rfl) hf rfl) hf rfl), hs.sel [0, 1, 2, 5, 6] (by decide)⟩
              · have hj68 := bif_f hj68 hb72
                refine sYg hf hs rfl rfl rfl (congrArg (fun b => some (Value.bool b)) hb72) rfl rfl rfl (Y_move rfl rfl) ?_; clear hf; intro a hf
                refine sYg hf hs rfl rfl rfl (congrArg (fun b => some (Value.bool b)) hb72) rfl rfl rfl (Y_move rfl rfl) ?_; clear hf; intro a hf
                refine sYg hf hs rfl rfl rfl (congrArg (fun b => some (Value.bool b)) hb72) rfl rfl rfl (Y_neq rfl rfl rfl) ?_; clear hf; intro a hf
                refine sY hf hs rfl rfl rfl (Y_pickF rfl (congrArg (fun b => some (Value.bool b)) hb72) rfl) ?_; clear hf; intro a hf
                refine wpO_nil ?_
                refine wpL_nil (then_normal ?_)
                exact ⟨(r25.2 != r11.2), Option.some.inj hj68, (Fr.pick (Fr.pick (Fr.pick (Fr.pick (Fr.pick (Fr.pick (Fr.pick hf.none hf rfl) hf rfl) hf rfl) hf rfl) hf rfl) hf rfl) hf rfl), hs.sel [0, 1, 2, 5, 6] (by decide)⟩
          · rintro a w ⟨b66, hr_, hf, hs⟩
            subst hr_
            try dsimp only at hm
            refine wpL_cond hf rfl (fun hb73 => ?_) (fun hb73 => ?_)
            · have hm := bif_t hm hb73
              refine wpL_seq ?_
              refine wpL_region ?_
              refine sY hf hs rfl rfl rfl (Y_assign rfl rfl) ?_; clear hf; intro a hf
              refine wpO_nil ?_
              obtain rfl := Option.some.inj hm
              refine wpL_ret (ret_tmp rfl hf rfl ?_)
              exact ⟨_, rfl, rfl, hs.sel [] (by decide)⟩
            · have hm := bif_f hm hb73
              refine wpL_skip ?_
              refine wpL_seq ?_
              refine wpL_region ?_
              refine sY hf hs rfl rfl rfl (Y_assign rfl rfl) ?_; clear hf; intro a hf
              refine wpO_nil ?_
              refine wpL_seq ?_
              refine wpL_region ?_
              refine sY hf hs rfl rfl rfl (Y_load_blkS rfl rfl (i := 3) rfl ag28 ti28 rfl) ?_; clear hf; intro a hf
              refine sY hf hs rfl rfl rfl (Y_move rfl rfl) ?_; clear hf; intro a hf
              obtain ⟨r74, hc75, hm⟩ := bind_some hm
              refine sCall hf rfl rfl rfl rfl (cap := []) rfl rfl en20 (laws_markEventGraph_ok F (GEventGraph.mk r25.1.Events r25.1.Places) A27 n28 c29 hn30 1 _ _ hc75 (hs.res _ _ (show _[4]? = some _ from rfl))) ?_; clear hf
              rintro _ w ⟨rfl, hn76, hs1⟩ a hf
              have hs : St [] W w [.blk b1 24 [.int .i64 p0.Events, .slice A_p0_1 p0.Places.length c_p0_1], .blk b17 28 [.int .i64 r11.1.Events, .slice A13 n14 c15], .row A13 n14 c15 85 4 ((recs GPlace.cells) r11.1.Places), .blk b31 28 [.int .i64 r25.1.Events, .slice A27 n28 c29], .row A27 n28 c29 85 4 ((recs GPlace.cells) r74.2)] := hs.mut (i := 4) rfl (fun b hb => muA_mem hb) hs1
              clear hs1
              refine sY hf hs rfl rfl rfl (Y_assign rfl rfl) ?_; clear hf; intro a hf
              refine wpO_nil ?_
              refine wpL_seq ?_
              refine wpL_region ?_
              refine sY hf hs rfl rfl rfl (Y_assign rfl rfl) ?_; clear hf; intro a hf
              refine wpO_nil ?_
              refine wpL_seq ?_
              refine wpL_region ?_
              refine sY hf hs rfl rfl rfl (Y_load_blkS rfl rfl (i := 3) rfl ag28 ti28 rfl) ?_; clear hf; intro a hf
              refine sY hf hs rfl rfl rfl (Y_move rfl rfl) ?_; clear hf; intro a hf
              obtain ⟨r77, hc78, hm⟩ := bind_some hm
              refine sCall hf rfl rfl rfl rfl (cap := []) rfl rfl en21 (laws_heldEventGraph_ok F (GEventGraph.mk r25.1.Events r74.2) A27 n28 c29 hn76 1 _ _ hc78 (hs.rd (i := 4) rfl)) ?_; clear hf
              rintro _ w ⟨rfl, hs1⟩ a hf
              have hs : St [] W w [.blk b1 24 [.int .i64 p0.Events, .slice A_p0_1 p0.Places.length c_p0_1], .blk b17 28 [.int .i64 r11.1.Events, .slice A13 n14 c15], .row A13 n14 c15 85 4 ((recs GPlace.cells) r11.1.Places), .blk b31 28 [.int .i64 r25.1.Events, .slice A27 n28 c29], .row A27 n28 c29 85 4 ((recs GPlace.cells) r74.2)] := hs.ext hs1.below
              clear hs1
              refine sY hf hs rfl rfl rfl (Y_assign rfl rfl) ?_; clear hf; intro a hf
              refine wpO_nil ?_
              refine wpL_seq ?_
              refine wpL_seq ?_
              refine wpL_region ?_
              refine sY hf hs rfl rfl rfl (Y_move rfl rfl) ?_; clear hf; intro a hf
              refine sY hf hs rfl rfl rfl (Y_lss rfl rfl rfl) ?_; clear hf; intro a hf
              refine wpO_nil ?_
              refine wpL_cond hf rfl (fun hb79 => ?_) (fun hb79 => ?_)
              · have hm := bif_t hm hb79
                refine wpL_seq ?_
                refine wpL_region ?_
                refine sY hf hs rfl rfl rfl (Y_assign rfl rfl) ?_; clear hf; intro a hf
                refine wpO_nil ?_
                obtain rfl := Option.some.inj hm
                refine wpL_ret (ret_tmp rfl hf rfl ?_)
                exact ⟨_, rfl, rfl, hs.sel [] (by decide)⟩
              · have hm := bif_f hm hb79
                refine wpL_skip ?_
                refine wpL_seq ?_
                refine wpL_seq ?_
                refine wpL_region ?_
                refine sY hf hs rfl rfl rfl (Y_move rfl rfl) ?_; clear hf; intro a hf
                refine sY hf hs rfl rfl rfl (Y_move rfl rfl) ?_; clear hf; intro a hf
                refine sY hf hs rfl rfl rfl (Y_neq rfl rfl rfl) ?_; clear hf; intro a hf
                refine wpO_nil ?_
                refine wpL_cond hf rfl (fun hb80 => ?_) (fun hb80 => ?_)
                · have hm := bif_t hm hb80
                  refine wpL_seq ?_
                  refine wpL_region ?_
                  refine sY hf hs rfl rfl rfl (Y_assign rfl rfl) ?_; clear hf; intro a hf
                  refine wpO_nil ?_
                  obtain rfl := Option.some.inj hm
                  refine wpL_ret (ret_tmp rfl hf rfl ?_)
                  exact ⟨_, rfl, rfl, hs.sel [] (by decide)⟩
                · have hm := bif_f hm hb80
                  refine wpL_skip ?_
                  refine wpL_seq ?_
                  refine wpL_region ?_
                  refine sY hf hs rfl rfl rfl (Y_load_blkS rfl rfl (i := 0) rfl ag24 ti24 rfl) ?_; clear hf; intro a hf
                  obtain ⟨r81, hc82, hm⟩ := bind_some hm
                  refine sCall hf rfl rfl rfl rfl (cap := []) rfl rfl en17 (laws_toEventGraph_ok F p0 A_p0_1 p0.Places.length c_p0_1 rfl _ _ hc82 (h_p0_1.at hs)) ?_; clear hf
                  rintro _ w ⟨A83, n84, c85, rfl, hn86, hs1⟩ a hf
                  have hs : St [] W w [.blk b1 24 [.int .i64 p0.Events, .slice A_p0_1 p0.Places.length c_p0_1], .blk b17 28 [.int .i64 r11.1.Events, .slice A13 n14 c15], .row A13 n14 c15 85 4 ((recs GPlace.cells) r11.1.Places), .blk b31 28 [.int .i64 r25.1.Events, .slice A27 n28 c29], .row A27 n28 c29 85 4 ((recs GPlace.cells) r74.2), .row A83 n84 c85 85 4 ((recs GPlace.cells) r81.Places)] := hs.join hs1
                  clear hs1
                  refine sY hf hs rfl rfl rfl (Y_move rfl rfl) ?_; clear hf; intro a hf
                  refine sY hf hs rfl rfl rfl (Y_move rfl rfl) ?_; clear hf; intro a hf
                  obtain ⟨r87, hc88, hm⟩ := bind_some hm
                  refine sCall hf rfl rfl rfl rfl (cap := []) rfl rfl en23 (impl_SplitPlace_ok F r81 A83 n84 c85 hn86 p1 p2 _ _ hc88 (hs.rd (i := 5) rfl)) ?_; clear hf
                  rintro _ w ⟨A89, n90, c91, rfl, hn92, hs1⟩ a hf
                  have hs : St [] W w [.blk b1 24 [.int .i64 p0.Events, .slice A_p0_1 p0.Places.length c_p0_1], .blk b17 28 [.int .i64 r11.1.Events, .slice A13 n14 c15], .row A13 n14 c15 85 4 ((recs GPlace.cells) r11.1.Places), .blk b31 28 [.int .i64 r25.1.Events, .slice A27 n28 c29], .row A27 n28 c29 85 4 ((recs GPlace.cells) r74.2), .row A83 n84 c85 85 4 ((recs GPlace.cells) r81.Places), .row A89 n90 c91 85 4 ((recs GPlace.cells) r87.1.Places)] := hs.join hs1
                  clear hs1
                  refine sY hf hs rfl rfl rfl (Y_move rfl rfl) ?_; clear hf; intro a hf
                  refine sY hf hs rfl rfl rfl (Y_extract rfl rfl rfl) ?_; clear hf; intro a hf
                  refine sY hf hs rfl rfl rfl (Y_extract rfl rfl rfl) ?_; clear hf; intro a hf
                  refine sAlloc hf hs rfl rfl rfl rfl ti28 ?_; clear hf hs; intro a w b93 hs hf
                  have hs : St [] W w [.blk b1 24 [.int .i64 p0.Events, .slice A_p0_1 p0.Places.length c_p0_1], .blk b17 28 [.int .i64 r11.1.Events, .slice A13 n14 c15], .row A13 n14 c15 85 4 ((recs GPlace.cells) r11.1.Places), .blk b31 28 [.int .i64 r25.1.Events, .slice A27 n28 c29], .row A27 n28 c29 85 4 ((recs GPlace.cells) r74.2), .row A83 n84 c85 85 4 ((recs GPlace.cells) r81.Places), .row A89 n90 c91 85 4 ((recs GPlace.cells) r87.1.Places), .blk b93 28 [.int .i64 0, .slice none 0 0]] := hs
                  refine sStore (i := 7) (us := [.int .i64 r87.1.Events, .slice A89 n90 c91]) hf hs rfl rfl rfl rfl rfl rfl ti28 rfl rfl rfl (Nat.le_of_ble_eq_true rfl) rfl ?_; clear hs; intro w hs
                  have hs : St [] W w [.blk b1 24 [.int .i64 p0.Events, .slice A_p0_1 p0.Places.length c_p0_1], .blk b17 28 [.int .i64 r11.1.Events, .slice A13 n14 c15], .row A13 n14 c15 85 4 ((recs GPlace.cells) r11.1.Places), .blk b31 28 [.int .i64 r25.1.Events, .slice A27 n28 c29], .row A27 n28 c29 85 4 ((recs GPlace.cells) r74.2), .row A83 n84 c85 85 4 ((recs GPlace.cells) r81.Places), .row A89 n90 c91 85 4 ((recs GPlace.cells) r87.1.Places), .blk b93 28 [.int .i64 r87.1.Events, .slice A89 n90 c91]] := hs
                  refine sY hf hs rfl rfl rfl (Y_assign rfl rfl) ?_; clear hf; intro a hf
                  refine wpO_nil ?_
                  refine wpL_seq ?_
                  refine wpL_seq ?_
                  obtain ⟨r98, hj99, hm⟩ := bind_some hm
                  refine wpL_cut (fun a w => ∃ b97 : Bool, b97 = r98 ∧ Fr a 106 [(11, .pointer (some ⟨b31, 0, none⟩)), (14, .int .i64 r74.1), (97, .bool b97)] ∧ St [] W w [.blk b31 28 [.int .i64 r25.1.Events, .slice A27 n28 c29], .row A27 n28 c29 85 4 ((recs GPlace.cells) r74.2)]) ?_ ?_
                  · refine wpL_region ?_
                    refine sY hf hs rfl rfl rfl (Y_load_blkS rfl rfl (i := 7) rfl ag28 ti28 rfl) ?_; clear hf; intro a hf
                    refine sY hf hs rfl rfl rfl (Y_load_blkS rfl rfl (i := 1) rfl ag28 ti28 rfl) ?_; clear hf; intro a hf
                    obtain ⟨r100, hc101, hj99⟩ := bind_some hj99
                    refine sCall hf rfl rfl rfl rfl (cap := []) rfl rfl en19 (laws_eqEventGraph_ok F (GEventGraph.mk r87.1.Events r87.1.Places) A89 n90 c91 hn92 (GEventGraph.mk r11.1.Events r11.1.Places) A13 n14 c15 hn16 _ _ hc101 (hs.rd (i := 6) rfl) (hs.rd (i := 2) rfl)) ?_; clear hf
                    rintro _ w ⟨rfl, hs1⟩ a hf
                    have hs : St [] W w [.blk b1 24 [.int .i64 p0.Events, .slice A_p0_1 p0.Places.length c_p0_1], .blk b17 28 [.int .i64 r11.1.Events, .slice A13 n14 c15], .row A13 n14 c15 85 4 ((recs GPlace.cells) r11.1.Places), .blk b31 28 [.int .i64 r25.1.Events, .slice A27 n28 c29], .row A27 n28 c29 85 4 ((recs GPlace.cells) r74.2), .row A83 n84 c85 85 4 ((recs GPlace.cells) r81.Places), .row A89 n90 c91 85 4 ((recs GPlace.cells) r87.1.Places), .blk b93 28 [.int .i64 r87.1.Events, .slice A89 n90 c91]] := hs.ext hs1.below
                    clear hs1
                    refine sY hf hs rfl rfl rfl (Y_not rfl rfl) ?_; clear hf; intro a hf
                    refine sY hf hs rfl rfl rfl (Y_move rfl rfl) ?_; clear hf; intro a hf
                    refine bsplit (!r100) (fun hb102 => ?_) (fun hb102 => ?_)
                    · have hj99 := bif_t hj99 hb102
                      refine sNo hf rfl rfl rfl (congrArg (fun b => some (Value.bool b)) hb102) rfl rfl rfl ?_; clear hf; intro a hf
                      refine sNo hf rfl rfl rfl (congrArg (fun b => some (Value.bool b)) hb102) rfl rfl rfl ?_; clear hf; intro a hf
                      refine sNo hf rfl rfl rfl (congrArg (fun b => some (Value.bool b)) hb102) rfl rfl rfl ?_; clear hf; intro a hf
                      refine sY hf hs rfl rfl rfl (Y_pickT rfl (congrArg (fun b => some (Value.bool b)) hb102) rfl) ?_; clear hf; intro a hf
                      refine wpO_nil ?_
                      refine wpL_nil (then_normal ?_)
                      exact ⟨true, Option.some.inj hj99, (Fr.pick (Fr.pick (Fr.pick hf.none hf rfl) hf rfl) hf rfl), hs.sel [3, 4] (by decide)⟩
                    · have hj99 := bif_f hj99 hb102
                      refine sYg hf hs rfl rfl rfl (congrArg (fun b => some (Value.bool b)) hb102) rfl rfl rfl (Y_move rfl rfl) ?_; clear hf; intro a hf
                      refine sYg hf hs rfl rfl rfl (congrArg (fun b => some (Value.bool b)) hb102) rfl rfl rfl (Y_move rfl rfl) ?_; clear hf; intro a hf
                      refine sYg hf hs rfl rfl rfl (congrArg (fun b => some (Value.bool b)) hb102) rfl rfl rfl (Y_neq rfl rfl rfl) ?_; clear hf; intro a hf
                      refine sY hf hs rfl rfl rfl (Y_pickF rfl (congrArg (fun b => some (Value.bool b)) hb102) rfl) ?_; clear hf; intro a hf
                      refine wpO_nil ?_
                      refine wpL_nil (then_normal ?_)
                      exact ⟨(r87.2 != r11.2), Option.some.inj hj99, (Fr.pick (Fr.pick (Fr.pick hf.none hf rfl) hf rfl) hf rfl), hs.sel [3, 4] (by decide)⟩
                  · rintro a w ⟨b97, hr_, hf, hs⟩
                    subst hr_
                    try dsimp only at hm
                    refine wpL_cond hf rfl (fun hb103 => ?_) (fun hb103 => ?_)
                    · have hm := bif_t hm hb103
                      refine wpL_seq ?_
                      refine wpL_region ?_
                      refine sY hf hs rfl rfl rfl (Y_assign rfl rfl) ?_; clear hf; intro a hf
                      refine wpO_nil ?_
                      obtain rfl := Option.some.inj hm
                      refine wpL_ret (ret_tmp rfl hf rfl ?_)
                      exact ⟨_, rfl, rfl, hs.sel [] (by decide)⟩
                    · have hm := bif_f hm hb103
                      refine wpL_skip ?_
                      refine wpL_seq ?_
                      refine wpL_region ?_
                      refine sY hf hs rfl rfl rfl (Y_assign rfl rfl) ?_; clear hf; intro a hf
                      refine wpO_nil ?_
                      refine wpL_seq ?_
                      refine wpL_region ?_
                      refine sY hf hs rfl rfl rfl (Y_load_blkS rfl rfl (i := 0) rfl ag28 ti28 rfl) ?_; clear hf; intro a hf
                      refine sY hf hs rfl rfl rfl (Y_move rfl rfl) ?_; clear hf; intro a hf
                      obtain ⟨r104, hc105, hm⟩ := bind_some hm
                      refine sCall hf rfl rfl rfl rfl (cap := []) rfl rfl en21 (laws_heldEventGraph_ok F (GEventGraph.mk r25.1.Events r74.2) A27 n28 c29 hn76 1 _ _ hc105 (hs.rd (i := 1) rfl)) ?_; clear hf
                      rintro _ w ⟨rfl, hs1⟩ a hf
                      have hs : St [] W w [.blk b31 28 [.int .i64 r25.1.Events, .slice A27 n28 c29], .row A27 n28 c29 85 4 ((recs GPlace.cells) r74.2)] := hs.ext hs1.below
                      clear hs1
                      refine sY hf hs rfl rfl rfl (Y_assign rfl rfl) ?_; clear hf; intro a hf
                      refine wpO_nil ?_
                      refine wpL_seq ?_
                      refine wpL_seq ?_
                      refine wpL_region ?_
                      refine sY hf hs rfl rfl rfl (Y_move rfl rfl) ?_; clear hf; intro a hf
                      refine sY hf hs rfl rfl rfl (Y_lss rfl rfl rfl) ?_; clear hf; intro a hf
                      refine wpO_nil ?_
                      refine wpL_cond hf rfl (fun hb106 => ?_) (fun hb106 => ?_)
                      · have hm := bif_t hm hb106
                        refine wpL_seq ?_
                        refine wpL_region ?_
                        refine sY hf hs rfl rfl rfl (Y_assign rfl rfl) ?_; clear hf; intro a hf
                        refine wpO_nil ?_
                        obtain rfl := Option.some.inj hm
                        refine wpL_ret (ret_tmp rfl hf rfl ?_)
                        exact ⟨_, rfl, rfl, hs.sel [] (by decide)⟩
                      · have hm := bif_f hm hb106
                        refine wpL_skip ?_
                        refine wpL_seq ?_
                        refine wpL_seq ?_
                        refine wpL_region ?_
                        refine sY hf hs rfl rfl rfl (Y_move rfl rfl) ?_; clear hf; intro a hf
                        refine sY hf hs rfl rfl rfl (Y_move rfl rfl) ?_; clear hf; intro a hf
                        refine sY hf hs rfl rfl rfl (Y_neq rfl rfl rfl) ?_; clear hf; intro a hf
                        refine wpO_nil ?_
                        refine wpL_cond hf rfl (fun hb107 => ?_) (fun hb107 => ?_)
                        · have hm := bif_t hm hb107
                          refine wpL_seq ?_
                          refine wpL_region ?_
                          refine sY hf hs rfl rfl rfl (Y_assign rfl rfl) ?_; clear hf; intro a hf
                          refine wpO_nil ?_
                          obtain rfl := Option.some.inj hm
                          refine wpL_ret (ret_tmp rfl hf rfl ?_)
                          exact ⟨_, rfl, rfl, hs.sel [] (by decide)⟩
                        · have hm := bif_f hm hb107
                          refine wpL_skip ?_
                          refine wpL_seq ?_
                          refine wpL_region ?_
                          refine sY hf hs rfl rfl rfl (Y_assign rfl rfl) ?_; clear hf; intro a hf
                          refine wpO_nil ?_
                          obtain rfl := Option.some.inj hm
                          refine wpL_ret (ret_tmp rfl hf rfl ?_)
                          exact ⟨_, rfl, rfl, hs.sel [] (by decide)⟩

end Go.Proofs.Ytlpigpplfaehbaa
