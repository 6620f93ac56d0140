/- The functions do what their models say. -/
import Derived.Test.YtmijmamolmoheaaLatestTimetableLifted2
import Derived.Test.YtmijmamolmoheaaRows
namespace Go.Proofs.Ytmijmamolmoheaa
open Go.RowKit

set_option maxRecDepth 100000 in
theorem laws_FnExactLatestTimetable_ok (F : Nat) (p0 : LEventGraph) (A_p0_1 : Option Addr) (n_p0_1 c_p0_1 : Nat) (hn_p0_1 : n_p0_1 = p0.Places.length) (p1 : Int) (p2 : List Int) (A_p2_1 : Option Addr) (n_p2_1 c_p2_1 : Nat) (hn_p2_1 : n_p2_1 = p2.length) (r : Bool) (W : World) (hm : laws_FnExactLatestTimetable F p0 p1 p2 = some r) (h_p0_1 : Rd W A_p0_1 ((recs LPlace.cells) p0.Places)) (h_p2_1 : Rd W A_p2_1 (ints p2)) :
    Calls Try.prog 9 [.agg #[.int .i64 p0.Events, .slice A_p0_1 n_p0_1 c_p0_1], .int .i64 p1, .slice A_p2_1 n_p2_1 c_p2_1].toArray W fun e w' => ∃ v, e = .returned v ∧ v = .bool r ∧ St [] W w' [] := by
  subst hn_p0_1
  subst hn_p2_1
  unfold laws_FnExactLatestTimetable at hm
  refine Calls.enter (N := 122) Try.func9 rfl rfl rfl (fun a hf => ?_)
  have hs := St.start W
  obtain ⟨w, hw_⟩ : ∃ w, w = W := ⟨W, rfl⟩
  clear hw_ w
  refine wpL_seq ?_
  refine wpL_region ?_
  refine sBox hf hs rfl rfl rfl rfl rfl (cs := [.int .i64 p0.Events, .slice A_p0_1 p0.Places.length c_p0_1]) rfl ?_; clear hf hs; intro a w b1 hs hf
  have hs : St [] W w [.blk b1 24 [.int .i64 p0.Events, .slice A_p0_1 p0.Places.length c_p0_1]] := hs
  refine sY hf hs rfl rfl rfl (Y_assign rfl rfl) ?_; clear hf; intro a hf
  refine wpO_nil ?_
  refine wpL_seq ?_
  refine wpL_seq ?_
  refine wpL_region ?_
  refine sY hf hs rfl rfl rfl (Y_move rfl rfl) ?_; clear hf; intro a hf
  refine sY hf hs rfl rfl rfl (Y_lenH rfl rfl el36 rfl) ?_; clear hf; intro a hf
  refine sY hf hs rfl rfl rfl (Y_gtr rfl rfl rfl) ?_; clear hf; intro a hf
  refine wpO_nil ?_
  refine wpL_cond hf rfl (fun hb2 => ?_) (fun hb2 => ?_)
  · have hm := bif_t hm hb2
    refine wpL_seq ?_
    refine wpL_region ?_
    refine sY hf hs rfl rfl rfl (Y_assign rfl rfl) ?_; clear hf; intro a hf
    refine wpO_nil ?_
    obtain rfl := Option.some.inj hm
    refine wpL_ret (ret_tmp rfl hf rfl ?_)
    exact ⟨_, rfl, rfl, hs.sel [] (by decide)⟩
  · have hm := bif_f hm hb2
    refine wpL_skip ?_
    refine wpL_seq ?_
    refine wpL_region ?_
    refine sY hf hs rfl rfl rfl (Y_assign rfl rfl) ?_; clear hf; intro a hf
    refine wpO_nil ?_
    refine wpL_seq ?_
    refine wpL_region ?_
    refine sY hf hs rfl rfl rfl (Y_load_blkS rfl rfl (i := 0) rfl ag24 ti24 rfl) ?_; clear hf; intro a hf
    refine sY hf hs rfl rfl rfl (Y_move rfl rfl) ?_; clear hf; intro a hf
    obtain ⟨r3, hc4, hm⟩ := bind_some hm
    refine sCall hf rfl rfl rfl rfl (cap := []) rfl rfl en16 (laws_szEventGraph_ok F p0 A_p0_1 p0.Places.length c_p0_1 rfl 1048576 _ _ hc4 (h_p0_1.at hs)) ?_; clear hf
    rintro _ w ⟨rfl, hs1⟩ a hf
    have hs : St [] W w [.blk b1 24 [.int .i64 p0.Events, .slice A_p0_1 p0.Places.length c_p0_1]] := hs.ext hs1.below
    clear hs1
    refine sY hf hs rfl rfl rfl (Y_assign rfl rfl) ?_; clear hf; intro a hf
    refine wpO_nil ?_
    refine wpL_seq ?_
    refine wpL_seq ?_
    refine wpL_region ?_
    refine sY hf hs rfl rfl rfl (Y_move rfl rfl) ?_; clear hf; intro a hf
    refine sY hf hs rfl rfl rfl (Y_lss rfl rfl rfl) ?_; clear hf; intro a hf
    refine wpO_nil ?_
    refine wpL_cond hf rfl (fun hb5 => ?_) (fun hb5 => ?_)
    · have hm := bif_t hm hb5
      refine wpL_seq ?_
      refine wpL_region ?_
      refine sY hf hs rfl rfl rfl (Y_assign rfl rfl) ?_; clear hf; intro a hf
      refine wpO_nil ?_
      obtain rfl := Option.some.inj hm
      refine wpL_ret (ret_tmp rfl hf rfl ?_)
      exact ⟨_, rfl, rfl, hs.sel [] (by decide)⟩
    · have hm := bif_f hm hb5
      refine wpL_skip ?_
      refine wpL_seq ?_
      refine wpL_region ?_
      refine sY hf hs rfl rfl rfl (Y_load_blkS rfl rfl (i := 0) rfl ag24 ti24 rfl) ?_; clear hf; intro a hf
      obtain ⟨r6, hc7, hm⟩ := bind_some hm
      refine sCall hf rfl rfl rfl rfl (cap := []) rfl rfl en18 (laws_toEventGraph_ok F p0 A_p0_1 p0.Places.length c_p0_1 rfl _ _ hc7 (h_p0_1.at hs)) ?_; clear hf
      rintro _ w ⟨A8, n9, c10, rfl, hn11, hs1⟩ a hf
      have hs : St [] W w [.blk b1 24 [.int .i64 p0.Events, .slice A_p0_1 p0.Places.length c_p0_1], .row A8 n9 c10 120 4 ((recs GPlace.cells) r6.Places)] := hs.join hs1
      clear hs1
      refine sY hf hs rfl rfl rfl (Y_move rfl rfl) ?_; clear hf; intro a hf
      refine sY hf hs rfl rfl rfl (Y_move rfl rfl) ?_; clear hf; intro a hf
      obtain ⟨r12, hc13, hm⟩ := bind_some hm
      refine sCall hf rfl rfl rfl rfl (cap := []) rfl rfl en51 (laws_toInt64S_ok F p2 A_p2_1 p2.length c_p2_1 rfl _ _ hc13 (h_p2_1.at hs)) ?_; clear hf
      rintro _ w ⟨A14, n15, c16, rfl, hn17, hs1⟩ a hf
      have hs : St [] W w [.blk b1 24 [.int .i64 p0.Events, .slice A_p0_1 p0.Places.length c_p0_1], .row A8 n9 c10 120 4 ((recs GPlace.cells) r6.Places), .row A14 n15 c16 2 1 (ints r12)] := hs.join hs1
      clear hs1
      obtain ⟨r18, hc19, hm⟩ := bind_some hm
      refine sCall hf rfl rfl rfl rfl (cap := []) rfl rfl en50 (spec_LatestTimetable_ok F r6 A8 n9 c10 hn11 p1 r12 A14 n15 c16 hn17 _ _ hc19 (hs.rd (i := 1) rfl) (hs.rd (i := 2) rfl)) ?_; clear hf
      rintro _ w ⟨A20, n21, c22, rfl, hn23, hs1⟩ a hf
      have hs : St [] W w [.blk b1 24 [.int .i64 p0.Events, .slice A_p0_1 p0.Places.length c_p0_1], .row A8 n9 c10 120 4 ((recs GPlace.cells) r6.Places), .row A14 n15 c16 2 1 (ints r12), .row A20 n21 c22 2 1 (ints r18.1.Starts)] := hs.join hs1
      clear hs1
      refine sY hf hs rfl rfl rfl (Y_move rfl rfl) ?_; clear hf; intro a hf
      refine sY hf hs rfl rfl rfl (Y_extract rfl rfl rfl) ?_; clear hf; intro a hf
      refine sY hf hs rfl rfl rfl (Y_extract rfl rfl rfl) ?_; clear hf; intro a hf
      refine sAlloc hf hs rfl rfl rfl rfl ti63 ?_; clear hf hs; intro a w b24 hs hf
      have hs : St [] W w [.blk b1 24 [.int .i64 p0.Events, .slice A_p0_1 p0.Places.length c_p0_1], .row A8 n9 c10 120 4 ((recs GPlace.cells) r6.Places), .row A14 n15 c16 2 1 (ints r12), .row A20 n21 c22 2 1 (ints r18.1.Starts), .blk b24 63 [.int .i64 0, .slice none 0 0]] := hs
      refine sStore (i := 4) (us := [.int .i64 r18.1.Period, .slice A20 n21 c22]) hf hs rfl rfl rfl rfl rfl rfl ti63 rfl rfl rfl (Nat.le_of_ble_eq_true rfl) rfl ?_; clear hs; intro w hs
      have hs : St [] W w [.blk b1 24 [.int .i64 p0.Events, .slice A_p0_1 p0.Places.length c_p0_1], .row A8 n9 c10 120 4 ((recs GPlace.cells) r6.Places), .row A14 n15 c16 2 1 (ints r12), .row A20 n21 c22 2 1 (ints r18.1.Starts), .blk b24 63 [.int .i64 r18.1.Period, .slice A20 n21 c22]] := hs
      refine sY hf hs rfl rfl rfl (Y_assign rfl rfl) ?_; clear hf; intro a hf
      refine wpO_nil ?_
      refine wpL_seq ?_
      refine wpL_region ?_
      refine sY hf hs rfl rfl rfl (Y_load_blkS rfl rfl (i := 0) rfl ag24 ti24 rfl) ?_; clear hf; intro a hf
      obtain ⟨r25, hc26, hm⟩ := bind_some hm
      refine sCall hf rfl rfl rfl rfl (cap := []) rfl rfl en18 (laws_toEventGraph_ok F p0 A_p0_1 p0.Places.length c_p0_1 rfl _ _ hc26 (h_p0_1.at hs)) ?_; clear hf
      rintro _ w ⟨A27, n28, c29, rfl, hn30, hs1⟩ a hf
      have hs : St [] W w [.blk b1 24 [.int .i64 p0.Events, .slice A_p0_1 p0.Places.length c_p0_1], .row A8 n9 c10 120 4 ((recs GPlace.cells) r6.Places), .row A14 n15 c16 2 1 (ints r12), .row A20 n21 c22 2 1 (ints r18.1.Starts), .blk b24 63 [.int .i64 r18.1.Period, .slice A20 n21 c22], .row A27 n28 c29 120 4 ((recs GPlace.cells) r25.Places)] := hs.join hs1
      clear hs1
      refine sAlloc hf hs rfl rfl rfl rfl ti30 ?_; clear hf hs; intro a w b31 hs hf
      have hs : St [] W w [.blk b1 24 [.int .i64 p0.Events, .slice A_p0_1 p0.Places.length c_p0_1], .row A8 n9 c10 120 4 ((recs GPlace.cells) r6.Places), .row A14 n15 c16 2 1 (ints r12), .row A20 n21 c22 2 1 (ints r18.1.Starts), .blk b24 63 [.int .i64 r18.1.Period, .slice A20 n21 c22], .row A27 n28 c29 120 4 ((recs GPlace.cells) r25.Places), .blk b31 30 [.int .i64 0, .slice none 0 0]] := hs
      refine sStore (i := 6) (us := [.int .i64 r25.Events, .slice A27 n28 c29]) hf hs rfl rfl rfl rfl rfl rfl ti30 rfl rfl rfl (Nat.le_of_ble_eq_true rfl) rfl ?_; clear hs; intro w hs
      have hs : St [] W w [.blk b1 24 [.int .i64 p0.Events, .slice A_p0_1 p0.Places.length c_p0_1], .row A8 n9 c10 120 4 ((recs GPlace.cells) r6.Places), .row A14 n15 c16 2 1 (ints r12), .row A20 n21 c22 2 1 (ints r18.1.Starts), .blk b24 63 [.int .i64 r18.1.Period, .slice A20 n21 c22], .row A27 n28 c29 120 4 ((recs GPlace.cells) r25.Places), .blk b31 30 [.int .i64 r25.Events, .slice A27 n28 c29]] := hs
      refine wpO_nil ?_
      refine wpL_seq ?_
      refine wpL_region ?_
      refine sY hf hs rfl rfl rfl (Y_move rfl rfl) ?_; clear hf; intro a hf
      obtain ⟨r32, hc33, hm⟩ := bind_some hm
      refine sCall hf rfl rfl rfl rfl (cap := []) rfl rfl en51 (laws_toInt64S_ok F p2 A_p2_1 p2.length c_p2_1 rfl _ _ hc33 (h_p2_1.at hs)) ?_; clear hf
      rintro _ w ⟨A34, n35, c36, rfl, hn37, hs1⟩ a hf
      have hs : St [] W w [.blk b1 24 [.int .i64 p0.Events, .slice A_p0_1 p0.Places.length c_p0_1], .row A8 n9 c10 120 4 ((recs GPlace.cells) r6.Places), .row A14 n15 c16 2 1 (ints r12), .row A20 n21 c22 2 1 (ints r18.1.Starts), .blk b24 63 [.int .i64 r18.1.Period, .slice A20 n21 c22], .row A27 n28 c29 120 4 ((recs GPlace.cells) r25.Places), .blk b31 30 [.int .i64 r25.Events, .slice A27 n28 c29], .row A34 n35 c36 2 1 (ints r32)] := hs.join hs1
      clear hs1
      refine sY hf hs rfl rfl rfl (Y_assign rfl rfl) ?_; clear hf; intro a hf
      refine wpO_nil ?_
      refine wpL_seq ?_
      refine wpL_region ?_
      refine sY hf hs rfl rfl rfl (Y_load_blkS rfl rfl (i := 6) rfl ag30 ti30 rfl) ?_; clear hf; intro a hf
      refine sY hf hs rfl rfl rfl (Y_move rfl rfl) ?_; clear hf; intro a hf
      refine sY hf hs rfl rfl rfl (Y_move rfl rfl) ?_; clear hf; intro a hf
      obtain ⟨r38, hc39, hm⟩ := bind_some hm
      refine sCall hf rfl rfl rfl rfl (cap := []) rfl rfl en52 (impl_LatestTimetable_ok F r25 A27 n28 c29 hn30 p1 r32 A34 n35 c36 hn37 _ _ hc39 (hs.rd (i := 5) rfl) (hs.rd (i := 7) rfl)) ?_; clear hf
      rintro _ w ⟨A40, n41, c42, rfl, hn43, hs1⟩ a hf
      have hs : St [] W w [.blk b1 24 [.int .i64 p0.Events, .slice A_p0_1 p0.Places.length c_p0_1], .row A8 n9 c10 120 4 ((recs GPlace.cells) r6.Places), .row A14 n15 c16 2 1 (ints r12), .row A20 n21 c22 2 1 (ints r18.1.Starts), .blk b24 63 [.int .i64 r18.1.Period, .slice A20 n21 c22], .row A27 n28 c29 120 4 ((recs GPlace.cells) r25.Places), .blk b31 30 [.int .i64 r25.Events, .slice A27 n28 c29], .row A34 n35 c36 2 1 (ints r32), .row A40 n41 c42 2 1 (ints r38.1.Starts)] := hs.join hs1
      clear hs1
      refine sY hf hs rfl rfl rfl (Y_move rfl rfl) ?_; clear hf; intro a hf
      refine sY hf hs rfl rfl rfl (Y_extract rfl rfl rfl) ?_; clear hf; intro a hf
      refine sY hf hs rfl rfl rfl (Y_extract rfl rfl rfl) ?_; clear hf; intro a hf
      refine sAlloc hf hs rfl rfl rfl rfl ti63 ?_; clear hf hs; intro a w b44 hs hf
      have hs : St [] W w [.blk b1 24 [.int .i64 p0.Events, .slice A_p0_1 p0.Places.length c_p0_1], .row A8 n9 c10 120 4 ((recs GPlace.cells) r6.Places), .row A14 n15 c16 2 1 (ints r12), .row A20 n21 c22 2 1 (ints r18.1.Starts), .blk b24 63 [.int .i64 r18.1.Period, .slice A20 n21 c22], .row A27 n28 c29 120 4 ((recs GPlace.cells) r25.Places), .blk b31 30 [.int .i64 r25.Events, .slice A27 n28 c29], .row A34 n35 c36 2 1 (ints r32), .row A40 n41 c42 2 1 (ints r38.1.Starts), .blk b44 63 [.int .i64 0, .slice none 0 0]] := hs
      refine sStore (i := 9) (us := [.int .i64 r38.1.Period, .slice A40 n41 c42]) hf hs rfl rfl rfl rfl rfl rfl ti63 rfl rfl rfl (Nat.le_of_ble_eq_true rfl) rfl ?_; clear hs; intro w hs
      have hs : St [] W w [.blk b1 24 [.int .i64 p0.Events, .slice A_p0_1 p0.Places.length c_p0_1], .row A8 n9 c10 120 4 ((recs GPlace.cells) r6.Places), .row A14 n15 c16 2 1 (ints r12), .row A20 n21 c22 2 1 (ints r18.1.Starts), .blk b24 63 [.int .i64 r18.1.Period, .slice A20 n21 c22], .row A27 n28 c29 120 4 ((recs GPlace.cells) r25.Places), .blk b31 30 [.int .i64 r25.Events, .slice A27 n28 c29], .row A34 n35 c36 2 1 (ints r32), .row A40 n41 c42 2 1 (ints r38.1.Starts), .blk b44 63 [.int .i64 r38.1.Period, .slice A40 n41 c42]] := hs
      refine sY hf hs rfl rfl rfl (Y_assign rfl rfl) ?_; clear hf; intro a hf
      refine wpO_nil ?_
      refine wpL_seq ?_
      refine wpL_seq ?_
      obtain ⟨r49, hj50, hm⟩ := bind_some hm
      refine wpL_cut (fun a w => ∃ b48 : Bool, b48 = r49 ∧ Fr a 122 [(1, .int .i64 p1), (2, .slice A_p2_1 p2.length c_p2_1), (3, .pointer (some ⟨b1, 0, none⟩)), (8, .pointer (some ⟨b24, 0, none⟩)), (9, .int .i64 r18.2), (10, .pointer (some ⟨b31, 0, none⟩)), (11, .slice A34 n35 c36), (12, .pointer (some ⟨b44, 0, none⟩)), (13, .int .i64 r38.2), (55, .bool b48)] ∧ St [] W w [.blk b1 24 [.int .i64 p0.Events, .slice A_p0_1 p0.Places.length c_p0_1], .blk b24 63 [.int .i64 r18.1.Period, .slice A20 n21 c22], .row A20 n21 c22 2 1 (ints r18.1.Starts), .blk b31 30 [.int .i64 r25.Events, .slice A27 n28 c29], .row A27 n28 c29 120 4 ((recs GPlace.cells) r25.Places), .row A34 n35 c36 2 1 (ints r32), .blk b44 63 [.int .i64 r38.1.Period, .slice A40 n41 c42], .row A40 n41 c42 2 1 (ints r38.1.Starts)]) ?_ ?_
      · refine wpL_region ?_
        refine sY hf hs rfl rfl rfl (Y_load_blkS rfl rfl (i := 9) rfl ag63 ti63 rfl) ?_; clear hf; intro a hf
        refine sY hf hs rfl rfl rfl (Y_load_blkS rfl rfl (i := 4) rfl ag63 ti63 rfl) ?_; clear hf; intro a hf
        obtain ⟨r51, hc52, hj50⟩ := bind_some hj50
        refine sCall hf rfl rfl rfl rfl (cap := []) rfl rfl en47 (laws_eqTimetable_ok F (GTimetable.mk r38.1.Period r38.1.Starts) A40 n41 c42 hn43 (GTimetable.mk r18.1.Period r18.1.Starts) A20 n21 c22 hn23 _ _ hc52 (hs.rd (i := 8) rfl) (hs.rd (i := 3) rfl)) ?_; clear hf
        rintro _ w ⟨rfl, hs1⟩ a hf
        have hs : St [] W w [.blk b1 24 [.int .i64 p0.Events, .slice A_p0_1 p0.Places.length c_p0_1], .row A8 n9 c10 120 4 ((recs GPlace.cells) r6.Places), .row A14 n15 c16 2 1 (ints r12), .row A20 n21 c22 2 1 (ints r18.1.Starts), .blk b24 63 [.int .i64 r18.1.Period, .slice A20 n21 c22], .row A27 n28 c29 120 4 ((recs GPlace.cells) r25.Places), .blk b31 30 [.int .i64 r25.Events, .slice A27 n28 c29], .row A34 n35 c36 2 1 (ints r32), .row A40 n41 c42 2 1 (ints r38.1.Starts), .blk b44 63 [.int .i64 r38.1.Period, .slice A40 n41 c42]] := hs.ext hs1.below
        clear hs1
        refine sY hf hs rfl rfl rfl (Y_not rfl rfl) ?_; clear hf; intro a hf
        refine sY hf hs rfl rfl rfl (Y_move rfl rfl) ?_; clear hf; intro a hf
        refine bsplit (!r51) (fun hb53 => ?_) (fun hb53 => ?_)
        · have hj50 := bif_t hj50 hb53
          refine sNo hf rfl rfl rfl (congrArg (fun b => some (Value.bool b)) hb53) rfl rfl rfl ?_; clear hf; intro a hf
          refine sNo hf rfl rfl rfl (congrArg (fun b => some (Value.bool b)) hb53) rfl rfl rfl ?_; clear hf; intro a hf
          refine sNo hf rfl rfl rfl (congrArg (fun b => some (Value.bool b)) hb53) rfl rfl rfl ?_; clear hf; intro a hf
          refine sY hf hs rfl rfl rfl (Y_pickT rfl (congrArg (fun b => some (Value.bool b)) hb53) rfl) ?_; clear hf; intro a hf
          refine wpO_nil ?_
          refine wpL_nil (then_normal ?_)
          exact ⟨true, Option.some.inj hj50, (Fr.pick (Fr.pick (Fr.pick (Fr.pick (Fr.pick (Fr.pick (Fr.pick (Fr.pick (Fr.pick (Fr.pick hf.none hf rfl) hf rfl) hf rfl) hf rfl) hf rfl) hf rfl) hf rfl) hf rfl) hf rfl) hf rfl), hs.sel [0, 4, 3, 6, 5, 7, 9, 8] (by decide)⟩
        · have hj50 := bif_f hj50 hb53
          refine sYg hf hs rfl rfl rfl (congrArg (fun b => some (Value.bool b)) hb53) rfl rfl rfl (Y_move rfl rfl) ?_; clear hf; intro a hf
          refine sYg hf hs rfl rfl rfl (congrArg (fun b => some (Value.bool b)) hb53) rfl rfl rfl (Y_move rfl rfl) ?_; clear hf; intro a hf
          refine sYg hf hs rfl rfl rfl (congrArg (fun b => some (Value.bool b)) hb53) rfl rfl rfl (Y_neq rfl rfl rfl) ?_; clear hf; intro a hf
          refine sY hf hs rfl rfl rfl (Y_pickF rfl (congrArg (fun b => some (Value.bool b)) hb53) rfl) ?_; clear hf; intro a hf
          refine wpO_nil ?_
          refine wpL_nil (then_normal ?_)
          exact ⟨(r38.2 != r18.2), Option.some.inj hj50, (Fr.pick (Fr.pick (Fr.pick (Fr.pick (Fr.pick (Fr.pick (Fr.pick (Fr.pick (Fr.pick (Fr.pick hf.none hf rfl) hf rfl) hf rfl) hf rfl) hf rfl) hf rfl) hf rfl) hf rfl) hf rfl) hf rfl), hs.sel [0, 4, 3, 6, 5, 7, 9, 8] (by decide)⟩
      · rintro a w ⟨b48, hr_, hf, hs⟩
        subst hr_
        try dsimp only at hm
        refine wpL_cond hf rfl (fun hb54 => ?_) (fun hb54 => ?_)
        · have hm := bif_t hm hb54
          refine wpL_seq ?_
          refine wpL_region ?_
          refine sY hf hs rfl rfl rfl (Y_assign rfl rfl) ?_; clear hf; intro a hf
          refine wpO_nil ?_
          obtain rfl := Option.some.inj hm
          refine wpL_ret (ret_tmp rfl hf rfl ?_)
          exact ⟨_, rfl, rfl, hs.sel [] (by decide)⟩
        · have hm := bif_f hm hb54
          refine wpL_skip ?_
          refine wpL_seq ?_
          refine wpL_seq ?_
          refine wpL_drawM [.blk b1 24 [.int .i64 p0.Events, .slice A_p0_1 p0.Places.length c_p0_1], .blk b24 63 [.int .i64 r18.1.Period, .slice A20 n21 c22], .row A20 n21 c22 2 1 (ints r18.1.Starts), .blk b31 30 [.int .i64 r25.Events, .slice A27 n28 c29], .row A27 n28 c29 120 4 ((recs GPlace.cells) r25.Places), .row A34 n35 c36 2 1 (ints r32), .blk b44 63 [.int .i64 r38.1.Period, .slice A40 n41 c42], .row A40 n41 c42 2 1 (ints r38.1.Starts)] [3] (by kernel_rfl) hs ?_; clear hs; intro w hs
          have hs0 : St [] W w [.blk b1 24 [.int .i64 p0.Events, .slice A_p0_1 p0.Places.length c_p0_1], .blk b24 63 [.int .i64 r18.1.Period, .slice A20 n21 c22], .row A20 n21 c22 2 1 (ints r18.1.Starts), .blk b31 30 [.int .i64 r25.Events, .slice A27 n28 c29], .row A27 n28 c29 120 4 ((recs GPlace.cells) r25.Places), .row A34 n35 c36 2 1 (ints r32), .blk b44 63 [.int .i64 r38.1.Period, .slice A40 n41 c42], .row A40 n41 c42 2 1 (ints r38.1.Starts)] := hs
          refine mY (i := 0) [[]] rfl (by kernel_rfl) (by kernel_rfl) hf hs0 rfl rfl rfl (Y_load_blkS rfl rfl (i := 3) rfl ag30 ti30 rfl) ?_; clear hf; intro a hf
          refine mY (i := 1) [[2]] rfl (by kernel_rfl) (by kernel_rfl) hf hs0 rfl rfl rfl (Y_load_blkS rfl rfl (i := 0) rfl ag24 ti24 rfl) ?_; clear hf; intro a hf
          refine mRun (i := 2) rfl (by kernel_rfl) ?_
          obtain ⟨r63, hc64, hm⟩ := bind_some hm
          refine sCall hf rfl rfl rfl rfl (cap := []) rfl rfl en18 (laws_toEventGraph_ok F p0 A_p0_1 p0.Places.length c_p0_1 rfl _ _ hc64 (h_p0_1.at hs)) ?_; clear hf
          rintro _ w ⟨A65, n66, c67, rfl, hn68, hs1⟩ a hf
          have hs : St [] W w [.blk b1 24 [.int .i64 p0.Events, .slice A_p0_1 p0.Places.length c_p0_1], .blk b24 63 [.int .i64 r18.1.Period, .slice A20 n21 c22], .row A20 n21 c22 2 1 (ints r18.1.Starts), .blk b31 30 [.int .i64 r25.Events, .slice A27 n28 c29], .row A27 n28 c29 120 4 ((recs GPlace.cells) r25.Places), .row A34 n35 c36 2 1 (ints r32), .blk b44 63 [.int .i64 r38.1.Period, .slice A40 n41 c42], .row A40 n41 c42 2 1 (ints r38.1.Starts), .row A65 n66 c67 120 4 ((recs GPlace.cells) r63.Places)] := hs.join hs1
          clear hs1
          have hs0 : St [] W w [.blk b1 24 [.int .i64 p0.Events, .slice A_p0_1 p0.Places.length c_p0_1], .blk b24 63 [.int .i64 r18.1.Period, .slice A20 n21 c22], .row A20 n21 c22 2 1 (ints r18.1.Starts), .blk b31 30 [.int .i64 r25.Events, .slice A27 n28 c29], .row A27 n28 c29 120 4 ((recs GPlace.cells) r25.Places), .row A34 n35 c36 2 1 (ints r32), .blk b44 63 [.int .i64 r38.1.Period, .slice A40 n41 c42], .row A40 n41 c42 2 1 (ints r38.1.Starts)] := hs.sel [0, 1, 2, 3, 4, 5, 6, 7] (by decide)
          refine wpO_nil ⟨Or.inr (fun _ => hs0), ?_⟩
          refine mRun (i := 3) rfl (by kernel_rfl) ?_
          obtain ⟨r69, hc70, hm⟩ := bind_some hm
          refine sCall hf rfl rfl rfl rfl (cap := []) rfl rfl en20 (laws_eqEventGraph_ok F r25 A27 n28 c29 hn30 r63 A65 n66 c67 hn68 _ _ hc70 (hs.rd (i := 4) rfl) (hs.rd (i := 8) rfl)) ?_; clear hf
          rintro _ w ⟨rfl, hs1⟩ a hf
          have hs : St [] W w [.blk b1 24 [.int .i64 p0.Events, .slice A_p0_1 p0.Places.length c_p0_1], .blk b24 63 [.int .i64 r18.1.Period, .slice A20 n21 c22], .row A20 n21 c22 2 1 (ints r18.1.Starts), .blk b31 30 [.int .i64 r25.Events, .slice A27 n28 c29], .row A27 n28 c29 120 4 ((recs GPlace.cells) r25.Places), .row A34 n35 c36 2 1 (ints r32), .blk b44 63 [.int .i64 r38.1.Period, .slice A40 n41 c42], .row A40 n41 c42 2 1 (ints r38.1.Starts), .row A65 n66 c67 120 4 ((recs GPlace.cells) r63.Places)] := hs.ext hs1.below
          clear hs1
          refine wpO_nil ⟨Or.inl (by decide), ?_⟩
          refine mYp (i := 4) rfl (by kernel_rfl) (by kernel_rfl) hf rfl rfl rfl (fun _ => Y_not rfl rfl) ?_; clear hf; intro a hf
          refine mDone (by kernel_rfl) ?_
          clear hs0
          refine wpL_cond hf rfl (fun hb71 => ?_) (fun hb71 => ?_)
          · have hm := bif_t hm hb71
            refine wpL_seq ?_
            refine wpL_region ?_
            refine sY hf hs rfl rfl rfl (Y_assign rfl rfl) ?_; clear hf; intro a hf
            refine wpO_nil ?_
            obtain rfl := Option.some.inj hm
            refine wpL_ret (ret_tmp rfl hf rfl ?_)
            exact ⟨_, rfl, rfl, hs.sel [] (by decide)⟩
          · have hm := bif_f hm hb71
            refine wpL_skip ?_
            refine wpL_seq ?_
            refine wpL_seq ?_
            refine wpL_region ?_
            refine sY hf hs rfl rfl rfl (Y_move rfl rfl) ?_; clear hf; intro a hf
            refine sY hf hs rfl rfl rfl (Y_move rfl rfl) ?_; clear hf; intro a hf
            obtain ⟨r72, hc73, hm⟩ := bind_some hm
            refine sCall hf rfl rfl rfl rfl (cap := []) rfl rfl en51 (laws_toInt64S_ok F p2 A_p2_1 p2.length c_p2_1 rfl _ _ hc73 (h_p2_1.at hs)) ?_; clear hf
            rintro _ w ⟨A74, n75, c76, rfl, hn77, hs1⟩ a hf
            have hs : St [] W w [.blk b1 24 [.int .i64 p0.Events, .slice A_p0_1 p0.Places.length c_p0_1], .blk b24 63 [.int .i64 r18.1.Period, .slice A20 n21 c22], .row A20 n21 c22 2 1 (ints r18.1.Starts), .blk b31 30 [.int .i64 r25.Events, .slice A27 n28 c29], .row A27 n28 c29 120 4 ((recs GPlace.cells) r25.Places), .row A34 n35 c36 2 1 (ints r32), .blk b44 63 [.int .i64 r38.1.Period, .slice A40 n41 c42], .row A40 n41 c42 2 1 (ints r38.1.Starts), .row A65 n66 c67 120 4 ((recs GPlace.cells) r63.Places), .row A74 n75 c76 2 1 (ints r72)] := hs.join hs1
            clear hs1
            obtain ⟨r78, hc79, hm⟩ := bind_some hm
            refine sCall hf rfl rfl rfl rfl (cap := []) rfl rfl en25 (laws_eqInt64S_ok F r32 A34 n35 c36 hn37 r72 A74 n75 c76 hn77 _ _ hc79 (hs.rd (i := 5) rfl) (hs.rd (i := 9) rfl)) ?_; clear hf
            rintro _ w ⟨rfl, hs1⟩ a hf
            have hs : St [] W w [.blk b1 24 [.int .i64 p0.Events, .slice A_p0_1 p0.Places.length c_p0_1], .blk b24 63 [.int .i64 r18.1.Period, .slice A20 n21 c22], .row A20 n21 c22 2 1 (ints r18.1.Starts), .blk b31 30 [.int .i64 r25.Events, .slice A27 n28 c29], .row A27 n28 c29 120 4 ((recs GPlace.cells) r25.Places), .row A34 n35 c36 2 1 (ints r32), .blk b44 63 [.int .i64 r38.1.Period, .slice A40 n41 c42], .row A40 n41 c42 2 1 (ints r38.1.Starts), .row A65 n66 c67 120 4 ((recs GPlace.cells) r63.Places), .row A74 n75 c76 2 1 (ints r72)] := hs.ext hs1.below
            clear hs1
            refine sY hf hs rfl rfl rfl (Y_not rfl rfl) ?_; clear hf; intro a hf
            refine wpO_nil ?_
            refine wpL_cond hf rfl (fun hb80 => ?_) (fun hb80 => ?_)
            · have hm := bif_t hm hb80
              refine wpL_seq ?_
              refine wpL_region ?_
              refine sY hf hs rfl rfl rfl (Y_assign rfl rfl) ?_; clear hf; intro a hf
              refine wpO_nil ?_
              obtain rfl := Option.some.inj hm
              refine wpL_ret (ret_tmp rfl hf rfl ?_)
              exact ⟨_, rfl, rfl, hs.sel [] (by decide)⟩
            · have hm := bif_f hm hb80
              refine wpL_skip ?_
              refine wpL_seq ?_
              refine wpL_region ?_
              refine sY hf hs rfl rfl rfl (Y_assign rfl rfl) ?_; clear hf; intro a hf
              refine wpO_nil ?_
              refine wpL_seq ?_
              refine wpL_region ?_
              refine sY hf hs rfl rfl rfl (Y_load_blkS rfl rfl (i := 3) rfl ag30 ti30 rfl) ?_; clear hf; intro a hf
              refine sY hf hs rfl rfl rfl (Y_move rfl rfl) ?_; clear hf; intro a hf
              obtain ⟨r81, hc82, hm⟩ := bind_some hm
              refine sCall hf rfl rfl rfl rfl (cap := []) rfl rfl en32 (laws_markEventGraph_ok F r25 A27 n28 c29 hn30 1 _ _ hc82 (hs.res _ _ (show _[4]? = some _ from rfl))) ?_; clear hf
              rintro _ w ⟨rfl, hn83, hs1⟩ a hf
              have hs : St [] W w [.blk b1 24 [.int .i64 p0.Events, .slice A_p0_1 p0.Places.length c_p0_1], .blk b24 63 [.int .i64 r18.1.Period, .slice A20 n21 c22], .row A20 n21 c22 2 1 (ints r18.1.Starts), .blk b31 30 [.int .i64 r25.Events, .slice A27 n28 c29], .row A27 n28 c29 120 4 ((recs GPlace.cells) r81.2), .row A34 n35 c36 2 1 (ints r32), .blk b44 63 [.int .i64 r38.1.Period, .slice A40 n41 c42], .row A40 n41 c42 2 1 (ints r38.1.Starts), .row A65 n66 c67 120 4 ((recs GPlace.cells) r63.Places), .row A74 n75 c76 2 1 (ints r72)] := hs.mut (i := 4) rfl (fun b hb => muA_mem hb) hs1
              clear hs1
              refine sY hf hs rfl rfl rfl (Y_assign rfl rfl) ?_; clear hf; intro a hf
              refine wpO_nil ?_
              refine wpL_seq ?_
              refine wpL_region ?_
              refine sY hf hs rfl rfl rfl (Y_move rfl rfl) ?_; clear hf; intro a hf
              refine sY hf hs rfl rfl rfl (Y_move rfl rfl) ?_; clear hf; intro a hf
              obtain ⟨r84, hc85, hm⟩ := bind_some hm
              refine sCall hf rfl rfl rfl rfl (cap := []) rfl rfl en28 (laws_markInt64S_ok F r32 A34 n35 c36 hn37 r81.1 _ _ hc85 (hs.res _ _ (show _[5]? = some _ from rfl))) ?_; clear hf
              rintro _ w ⟨rfl, hn86, hs1⟩ a hf
              have hs : St [] W w [.blk b1 24 [.int .i64 p0.Events, .slice A_p0_1 p0.Places.length c_p0_1], .blk b24 63 [.int .i64 r18.1.Period, .slice A20 n21 c22], .row A20 n21 c22 2 1 (ints r18.1.Starts), .blk b31 30 [.int .i64 r25.Events, .slice A27 n28 c29], .row A27 n28 c29 120 4 ((recs GPlace.cells) r81.2), .row A34 n35 c36 2 1 (ints r84.2), .blk b44 63 [.int .i64 r38.1.Period, .slice A40 n41 c42], .row A40 n41 c42 2 1 (ints r38.1.Starts), .row A65 n66 c67 120 4 ((recs GPlace.cells) r63.Places), .row A74 n75 c76 2 1 (ints r72)] := hs.mut (i := 5) rfl (fun b hb => muA_mem hb) hs1
              clear hs1
              refine sY hf hs rfl rfl rfl (Y_assign rfl rfl) ?_; clear hf; intro a hf
              refine wpO_nil ?_
              refine wpL_seq ?_
              refine wpL_seq ?_
              obtain ⟨r92, hj93, hm⟩ := bind_some hm
              refine wpL_cut (fun a w => ∃ b91 : Bool, b91 = r92 ∧ Fr a 122 [(1, .int .i64 p1), (2, .slice A_p2_1 p2.length c_p2_1), (3, .pointer (some ⟨b1, 0, none⟩)), (8, .pointer (some ⟨b24, 0, none⟩)), (9, .int .i64 r18.2), (12, .pointer (some ⟨b44, 0, none⟩)), (84, .bool b91)] ∧ St [] W w [.blk b1 24 [.int .i64 p0.Events, .slice A_p0_1 p0.Places.length c_p0_1], .blk b24 63 [.int .i64 r18.1.Period, .slice A20 n21 c22], .row A20 n21 c22 2 1 (ints r18.1.Starts), .blk b44 63 [.int .i64 r38.1.Period, .slice A40 n41 c42], .row A40 n41 c42 2 1 (ints r38.1.Starts)]) ?_ ?_
              · refine wpL_region ?_
                refine sY hf hs rfl rfl rfl (Y_move rfl rfl) ?_; clear hf; intro a hf
                refine sY hf hs rfl rfl rfl (Y_lss rfl rfl rfl) ?_; clear hf; intro a hf
                refine sY hf hs rfl rfl rfl (Y_move rfl rfl) ?_; clear hf; intro a hf
                refine bsplit (decide (r84.1 < 0)) (fun hb94 => ?_) (fun hb94 => ?_)
                · have hj93 := bif_t hj93 hb94
                  refine sNo hf rfl rfl rfl (congrArg (fun b => some (Value.bool b)) hb94) rfl rfl rfl ?_; clear hf; intro a hf
                  refine sNo hf rfl rfl rfl (congrArg (fun b => some (Value.bool b)) hb94) rfl rfl rfl ?_; clear hf; intro a hf
                  refine sNo hf rfl rfl rfl (congrArg (fun b => some (Value.bool b)) hb94) rfl rfl rfl ?_; clear hf; intro a hf
                  refine sNo hf rfl rfl rfl (congrArg (fun b => some (Value.bool b)) hb94) rfl rfl rfl ?_; clear hf; intro a hf
                  refine sY hf hs rfl rfl rfl (Y_pickT rfl (congrArg (fun b => some (Value.bool b)) hb94) rfl) ?_; clear hf; intro a hf
                  refine sY hf hs rfl rfl rfl (Y_move rfl rfl) ?_; clear hf; intro a hf
                  refine sNo hf rfl rfl rfl rfl rfl rfl rfl ?_; clear hf; intro a hf
                  refine sNo hf rfl rfl rfl rfl rfl rfl rfl ?_; clear hf; intro a hf
                  refine sNo hf rfl rfl rfl rfl rfl rfl rfl ?_; clear hf; intro a hf
                  refine sY hf hs rfl rfl rfl (Y_pickT rfl rfl rfl) ?_; clear hf; intro a hf
                  refine wpO_nil ?_
                  refine wpL_nil (then_normal ?_)
                  exact ⟨true, Option.some.inj hj93, (Fr.pick (Fr.pick (Fr.pick (Fr.pick (Fr.pick (Fr.pick (Fr.pick hf.none hf rfl) hf rfl) hf rfl) hf rfl) hf rfl) hf rfl) hf rfl), hs.sel [0, 1, 2, 6, 7] (by decide)⟩
                · have hj93 := bif_f hj93 hb94
                  refine sYg hf hs rfl rfl rfl (congrArg (fun b => some (Value.bool b)) hb94) rfl rfl rfl (Y_load_blkS rfl rfl (i := 6) rfl ag63 ti63 rfl) ?_; clear hf; intro a hf
                  refine sYg hf hs rfl rfl rfl (congrArg (fun b => some (Value.bool b)) hb94) rfl rfl rfl (Y_load_blkS rfl rfl (i := 1) rfl ag63 ti63 rfl) ?_; clear hf; intro a hf
                  obtain ⟨r95, hc96, hj93⟩ := bind_some hj93
                  refine sCallg hf rfl rfl rfl (congrArg (fun b => some (Value.bool b)) hb94) rfl rfl rfl rfl (cap := []) rfl rfl en47 (laws_eqTimetable_ok F (GTimetable.mk r38.1.Period r38.1.Starts) A40 n41 c42 hn43 (GTimetable.mk r18.1.Period r18.1.Starts) A20 n21 c22 hn23 _ _ hc96 (hs.rd (i := 7) rfl) (hs.rd (i := 2) rfl)) ?_; clear hf
                  rintro _ w ⟨rfl, hs1⟩ a hf
                  have hs : St [] W w [.blk b1 24 [.int .i64 p0.Events, .slice A_p0_1 p0.Places.length c_p0_1], .blk b24 63 [.int .i64 r18.1.Period, .slice A20 n21 c22], .row A20 n21 c22 2 1 (ints r18.1.Starts), .blk b31 30 [.int .i64 r25.Events, .slice A27 n28 c29], .row A27 n28 c29 120 4 ((recs GPlace.cells) r81.2), .row A34 n35 c36 2 1 (ints r84.2), .blk b44 63 [.int .i64 r38.1.Period, .slice A40 n41 c42], .row A40 n41 c42 2 1 (ints r38.1.Starts), .row A65 n66 c67 120 4 ((recs GPlace.cells) r63.Places), .row A74 n75 c76 2 1 (ints r72)] := hs.ext hs1.below
                  clear hs1
                  refine sYg hf hs rfl rfl rfl (congrArg (fun b => some (Value.bool b)) hb94) rfl rfl rfl (Y_not rfl rfl) ?_; clear hf; intro a hf
                  refine sY hf hs rfl rfl rfl (Y_pickF rfl (congrArg (fun b => some (Value.bool b)) hb94) rfl) ?_; clear hf; intro a hf
                  refine sY hf hs rfl rfl rfl (Y_move rfl rfl) ?_; clear hf; intro a hf
                  refine bsplit (!r95) (fun hb97 => ?_) (fun hb97 => ?_)
                  · have hj93 := bif_t hj93 hb97
                    refine sNo hf rfl rfl rfl (congrArg (fun b => some (Value.bool b)) hb97) rfl rfl rfl ?_; clear hf; intro a hf
                    refine sNo hf rfl rfl rfl (congrArg (fun b => some (Value.bool b)) hb97) rfl rfl rfl ?_; clear hf; intro a hf
                    refine sNo hf rfl rfl rfl (congrArg (fun b => some (Value.bool b)) hb97) rfl rfl rfl ?_; clear hf; intro a hf
                    refine sY hf hs rfl rfl rfl (Y_pickT rfl (congrArg (fun b => some (Value.bool b)) hb97) rfl) ?_; clear hf; intro a hf
                    refine wpO_nil ?_
                    refine wpL_nil (then_normal ?_)
                    exact ⟨true, Option.some.inj hj93, (Fr.pick (Fr.pick (Fr.pick (Fr.pick (Fr.pick (Fr.pick (Fr.pick hf.none hf rfl) hf rfl) hf rfl) hf rfl) hf rfl) hf rfl) hf rfl), hs.sel [0, 1, 2, 6, 7] (by decide)⟩
                  · have hj93 := bif_f hj93 hb97
                    refine sYg hf hs rfl rfl rfl (congrArg (fun b => some (Value.bool b)) hb97) rfl rfl rfl (Y_move rfl rfl) ?_; clear hf; intro a hf
                    refine sYg hf hs rfl rfl rfl (congrArg (fun b => some (Value.bool b)) hb97) rfl rfl rfl (Y_move rfl rfl) ?_; clear hf; intro a hf
                    refine sYg hf hs rfl rfl rfl (congrArg (fun b => some (Value.bool b)) hb97) rfl rfl rfl (Y_neq rfl rfl rfl) ?_; clear hf; intro a hf
                    refine sY hf hs rfl rfl rfl (Y_pickF rfl (congrArg (fun b => some (Value.bool b)) hb97) rfl) ?_; clear hf; intro a hf
                    refine wpO_nil ?_
                    refine wpL_nil (then_normal ?_)
                    exact ⟨(r38.2 != r18.2), Option.some.inj hj93, (Fr.pick (Fr.pick (Fr.pick (Fr.pick (Fr.pick (Fr.pick (Fr.pick hf.none hf rfl) hf rfl) hf rfl) hf rfl) hf rfl) hf rfl) hf rfl), hs.sel [0, 1, 2, 6, 7] (by decide)⟩
              · rintro a w ⟨b91, hr_, hf, hs⟩
                subst hr_
                try dsimp only at hm
                refine wpL_cond hf rfl (fun hb98 => ?_) (fun hb98 => ?_)
                · have hm := bif_t hm hb98
                  refine wpL_seq ?_
                  refine wpL_region ?_
                  refine sY hf hs rfl rfl rfl (Y_assign rfl rfl) ?_; clear hf; intro a hf
                  refine wpO_nil ?_
                  obtain rfl := Option.some.inj hm
                  refine wpL_ret (ret_tmp rfl hf rfl ?_)
                  exact ⟨_, rfl, rfl, hs.sel [] (by decide)⟩
                · have hm := bif_f hm hb98
                  refine wpL_skip ?_
                  refine wpL_seq ?_
                  refine wpL_region ?_
                  refine sY hf hs rfl rfl rfl (Y_assign rfl rfl) ?_; clear hf; intro a hf
                  refine wpO_nil ?_
                  refine wpL_seq ?_
                  refine wpL_region ?_
                  refine sY hf hs rfl rfl rfl (Y_load_blkS rfl rfl (i := 3) rfl ag63 ti63 rfl) ?_; clear hf; intro a hf
                  refine sY hf hs rfl rfl rfl (Y_move rfl rfl) ?_; clear hf; intro a hf
                  obtain ⟨r99, hc100, hm⟩ := bind_some hm
                  refine sCall hf rfl rfl rfl rfl (cap := []) rfl rfl en48 (laws_markTimetable_ok F (GTimetable.mk r38.1.Period r38.1.Starts) A40 n41 c42 hn43 1 _ _ hc100 (hs.res _ _ (show _[4]? = some _ from rfl))) ?_; clear hf
                  rintro _ w ⟨rfl, hn101, hs1⟩ a hf
                  have hs : St [] W w [.blk b1 24 [.int .i64 p0.Events, .slice A_p0_1 p0.Places.length c_p0_1], .blk b24 63 [.int .i64 r18.1.Period, .slice A20 n21 c22], .row A20 n21 c22 2 1 (ints r18.1.Starts), .blk b44 63 [.int .i64 r38.1.Period, .slice A40 n41 c42], .row A40 n41 c42 2 1 (ints r99.2)] := hs.mut (i := 4) rfl (fun b hb => muA_mem hb) hs1
                  clear hs1
                  refine sY hf hs rfl rfl rfl (Y_assign rfl rfl) ?_; clear hf; intro a hf
                  refine wpO_nil ?_
                  refine wpL_seq ?_
                  refine wpL_region ?_
                  refine sY hf hs rfl rfl rfl (Y_assign rfl rfl) ?_; clear hf; intro a hf
                  refine wpO_nil ?_
                  refine wpL_seq ?_
                  refine wpL_region ?_
                  refine sY hf hs rfl rfl rfl (Y_load_blkS rfl rfl (i := 3) rfl ag63 ti63 rfl) ?_; clear hf; intro a hf
                  refine sY hf hs rfl rfl rfl (Y_move rfl rfl) ?_; clear hf; intro a hf
                  obtain ⟨r102, hc103, hm⟩ := bind_some hm
                  refine sCall hf rfl rfl rfl rfl (cap := []) rfl rfl en49 (laws_heldTimetable_ok F (GTimetable.mk r38.1.Period r99.2) A40 n41 c42 hn101 1 _ _ hc103 (hs.rd (i := 4) rfl)) ?_; clear hf
                  rintro _ w ⟨rfl, hs1⟩ a hf
                  have hs : St [] W w [.blk b1 24 [.int .i64 p0.Events, .slice A_p0_1 p0.Places.length c_p0_1], .blk b24 63 [.int .i64 r18.1.Period, .slice A20 n21 c22], .row A20 n21 c22 2 1 (ints r18.1.Starts), .blk b44 63 [.int .i64 r38.1.Period, .slice A40 n41 c42], .row A40 n41 c42 2 1 (ints r99.2)] := hs.ext hs1.below
                  clear hs1
                  refine sY hf hs rfl rfl rfl (Y_assign rfl rfl) ?_; clear hf; intro a hf
                  refine wpO_nil ?_
                  refine wpL_seq ?_
                  refine wpL_seq ?_
                  refine wpL_region ?_
                  refine sY hf hs rfl rfl rfl (Y_move rfl rfl) ?_; clear hf; intro a hf
                  refine sY hf hs rfl rfl rfl (Y_lss rfl rfl rfl) ?_; clear hf; intro a hf
                  refine wpO_nil ?_
                  refine wpL_cond hf rfl (fun hb104 => ?_) (fun hb104 => ?_)
                  · have hm := bif_t hm hb104
                    refine wpL_seq ?_
                    refine wpL_region ?_
                    refine sY hf hs rfl rfl rfl (Y_assign rfl rfl) ?_; clear hf; intro a hf
                    refine wpO_nil ?_
                    obtain rfl := Option.some.inj hm
                    refine wpL_ret (ret_tmp rfl hf rfl ?_)
                    exact ⟨_, rfl, rfl, hs.sel [] (by decide)⟩
                  · have hm := bif_f hm hb104
                    refine wpL_skip ?_
                    refine wpL_seq ?_
                    refine wpL_seq ?_
                    refine wpL_region ?_
                    refine sY hf hs rfl rfl rfl (Y_move rfl rfl) ?_; clear hf; intro a hf
                    refine sY hf hs rfl rfl rfl (Y_move rfl rfl) ?_; clear hf; intro a hf
                    refine sY hf hs rfl rfl rfl (Y_neq rfl rfl rfl) ?_; clear hf; intro a hf
                    refine wpO_nil ?_
                    refine wpL_cond hf rfl (fun hb105 => ?_) (fun hb105 => ?_)
                    · have hm := bif_t hm hb105
                      refine wpL_seq ?_
                      refine wpL_region ?_
                      refine sY hf hs rfl rfl rfl (Y_assign rfl rfl) ?_; clear hf; intro a hf
                      refine wpO_nil ?_
                      obtain rfl := Option.some.inj hm
                      refine wpL_ret (ret_tmp rfl hf rfl ?_)
                      exact ⟨_, rfl, rfl, hs.sel [] (by decide)⟩
                    · have hm := bif_f hm hb105
                      refine wpL_skip ?_
                      refine wpL_seq ?_
                      refine wpL_region ?_
                      refine sY hf hs rfl rfl rfl (Y_load_blkS rfl rfl (i := 0) rfl ag24 ti24 rfl) ?_; clear hf; intro a hf
                      obtain ⟨r106, hc107, hm⟩ := bind_some hm
                      refine sCall hf rfl rfl rfl rfl (cap := []) rfl rfl en18 (laws_toEventGraph_ok F p0 A_p0_1 p0.Places.length c_p0_1 rfl _ _ hc107 (h_p0_1.at hs)) ?_; clear hf
                      rintro _ w ⟨A108, n109, c110, rfl, hn111, hs1⟩ a hf
                      have hs : St [] W w [.blk b1 24 [.int .i64 p0.Events, .slice A_p0_1 p0.Places.length c_p0_1], .blk b24 63 [.int .i64 r18.1.Period, .slice A20 n21 c22], .row A20 n21 c22 2 1 (ints r18.1.Starts), .blk b44 63 [.int .i64 r38.1.Period, .slice A40 n41 c42], .row A40 n41 c42 2 1 (ints r99.2), .row A108 n109 c110 120 4 ((recs GPlace.cells) r106.Places)] := hs.join hs1
                      clear hs1
                      refine sY hf hs rfl rfl rfl (Y_move rfl rfl) ?_; clear hf; intro a hf
                      refine sY hf hs rfl rfl rfl (Y_move rfl rfl) ?_; clear hf; intro a hf
                      obtain ⟨r112, hc113, hm⟩ := bind_some hm
                      refine sCall hf rfl rfl rfl rfl (cap := []) rfl rfl en51 (laws_toInt64S_ok F p2 A_p2_1 p2.length c_p2_1 rfl _ _ hc113 (h_p2_1.at hs)) ?_; clear hf
                      rintro _ w ⟨A114, n115, c116, rfl, hn117, hs1⟩ a hf
                      have hs : St [] W w [.blk b1 24 [.int .i64 p0.Events, .slice A_p0_1 p0.Places.length c_p0_1], .blk b24 63 [.int .i64 r18.1.Period, .slice A20 n21 c22], .row A20 n21 c22 2 1 (ints r18.1.Starts), .blk b44 63 [.int .i64 r38.1.Period, .slice A40 n41 c42], .row A40 n41 c42 2 1 (ints r99.2), .row A108 n109 c110 120 4 ((recs GPlace.cells) r106.Places), .row A114 n115 c116 2 1 (ints r112)] := hs.join hs1
                      clear hs1
                      obtain ⟨r118, hc119, hm⟩ := bind_some hm
                      refine sCall hf rfl rfl rfl rfl (cap := []) rfl rfl en52 (impl_LatestTimetable_ok F r106 A108 n109 c110 hn111 p1 r112 A114 n115 c116 hn117 _ _ hc119 (hs.rd (i := 5) rfl) (hs.rd (i := 6) rfl)) ?_; clear hf
                      rintro _ w ⟨A120, n121, c122, rfl, hn123, hs1⟩ a hf
                      have hs : St [] W w [.blk b1 24 [.int .i64 p0.Events, .slice A_p0_1 p0.Places.length c_p0_1], .blk b24 63 [.int .i64 r18.1.Period, .slice A20 n21 c22], .row A20 n21 c22 2 1 (ints r18.1.Starts), .blk b44 63 [.int .i64 r38.1.Period, .slice A40 n41 c42], .row A40 n41 c42 2 1 (ints r99.2), .row A108 n109 c110 120 4 ((recs GPlace.cells) r106.Places), .row A114 n115 c116 2 1 (ints r112), .row A120 n121 c122 2 1 (ints r118.1.Starts)] := hs.join hs1
                      clear hs1
                      refine sY hf hs rfl rfl rfl (Y_move rfl rfl) ?_; clear hf; intro a hf
                      refine sY hf hs rfl rfl rfl (Y_extract rfl rfl rfl) ?_; clear hf; intro a hf
                      refine sY hf hs rfl rfl rfl (Y_extract rfl rfl rfl) ?_; clear hf; intro a hf
                      refine sAlloc hf hs rfl rfl rfl rfl ti63 ?_; clear hf hs; intro a w b124 hs hf
                      have hs : St [] W w [.blk b1 24 [.int .i64 p0.Events, .slice A_p0_1 p0.Places.length c_p0_1], .blk b24 63 [.int .i64 r18.1.Period, .slice A20 n21 c22], .row A20 n21 c22 2 1 (ints r18.1.Starts), .blk b44 63 [.int .i64 r38.1.Period, .slice A40 n41 c42], .row A40 n41 c42 2 1 (ints r99.2), .row A108 n109 c110 120 4 ((recs GPlace.cells) r106.Places), .row A114 n115 c116 2 1 (ints r112), .row A120 n121 c122 2 1 (ints r118.1.Starts), .blk b124 63 [.int .i64 0, .slice none 0 0]] := hs
                      refine sStore (i := 8) (us := [.int .i64 r118.1.Period, .slice A120 n121 c122]) hf hs rfl rfl rfl rfl rfl rfl ti63 rfl rfl rfl (Nat.le_of_ble_eq_true rfl) rfl ?_; clear hs; intro w hs
                      have hs : St [] W w [.blk b1 24 [.int .i64 p0.Events, .slice A_p0_1 p0.Places.length c_p0_1], .blk b24 63 [.int .i64 r18.1.Period, .slice A20 n21 c22], .row A20 n21 c22 2 1 (ints r18.1.Starts), .blk b44 63 [.int .i64 r38.1.Period, .slice A40 n41 c42], .row A40 n41 c42 2 1 (ints r99.2), .row A108 n109 c110 120 4 ((recs GPlace.cells) r106.Places), .row A114 n115 c116 2 1 (ints r112), .row A120 n121 c122 2 1 (ints r118.1.Starts), .blk b124 63 [.int .i64 r118.1.Period, .slice A120 n121 c122]] := hs
                      refine sY hf hs rfl rfl rfl (Y_assign rfl rfl) ?_; clear hf; intro a hf
                      refine wpO_nil ?_
                      refine wpL_seq ?_
                      refine wpL_seq ?_
                      obtain ⟨r129, hj130, hm⟩ := bind_some hm
                      refine wpL_cut (fun a w => ∃ b128 : Bool, b128 = r129 ∧ Fr a 122 [(12, .pointer (some ⟨b44, 0, none⟩)), (15, .int .i64 r99.1), (113, .bool b128)] ∧ St [] W w [.blk b44 63 [.int .i64 r38.1.Period, .slice A40 n41 c42], .row A40 n41 c42 2 1 (ints r99.2)]) ?_ ?_
                      · refine wpL_region ?_
                        refine sY hf hs rfl rfl rfl (Y_load_blkS rfl rfl (i := 8) rfl ag63 ti63 rfl) ?_; clear hf; intro a hf
                        refine sY hf hs rfl rfl rfl (Y_load_blkS rfl rfl (i := 1) rfl ag63 ti63 rfl) ?_; clear hf; intro a hf
                        obtain ⟨r131, hc132, hj130⟩ := bind_some hj130
                        refine sCall hf rfl rfl rfl rfl (cap := []) rfl rfl en47 (laws_eqTimetable_ok F (GTimetable.mk r118.1.Period r118.1.Starts) A120 n121 c122 hn123 (GTimetable.mk r18.1.Period r18.1.Starts) A20 n21 c22 hn23 _ _ hc132 (hs.rd (i := 7) rfl) (hs.rd (i := 2) rfl)) ?_; clear hf
                        rintro _ w ⟨rfl, hs1⟩ a hf
                        have hs : St [] W w [.blk b1 24 [.int .i64 p0.Events, .slice A_p0_1 p0.Places.length c_p0_1], .blk b24 63 [.int .i64 r18.1.Period, .slice A20 n21 c22], .row A20 n21 c22 2 1 (ints r18.1.Starts), .blk b44 63 [.int .i64 r38.1.Period, .slice A40 n41 c42], .row A40 n41 c42 2 1 (ints r99.2), .row A108 n109 c110 120 4 ((recs GPlace.cells) r106.Places), .row A114 n115 c116 2 1 (ints r112), .row A120 n121 c122 2 1 (ints r118.1.Starts), .blk b124 63 [.int .i64 r118.1.Period, .slice A120 n121 c122]] := hs.ext hs1.below
                        clear hs1
                        refine sY hf hs rfl rfl rfl (Y_not rfl rfl) ?_; clear hf; intro a hf
                        refine sY hf hs rfl rfl rfl (Y_move rfl rfl) ?_; clear hf; intro a hf
                        refine bsplit (!r131) (fun hb133 => ?_) (fun hb133 => ?_)
                        · have hj130 := bif_t hj130 hb133
                          refine sNo hf rfl rfl rfl (congrArg (fun b => some (Value.bool b)) hb133) rfl rfl rfl ?_; clear hf; intro a hf
                          refine sNo hf rfl rfl rfl (congrArg (fun b => some (Value.bool b)) hb133) rfl rfl rfl ?_; clear hf; intro a hf
                          refine sNo hf rfl rfl rfl (congrArg (fun b => some (Value.bool b)) hb133) rfl rfl rfl ?_; clear hf; intro a hf
                          refine sY hf hs rfl rfl rfl (Y_pickT rfl (congrArg (fun b => some (Value.bool b)) hb133) rfl) ?_; clear hf; intro a hf
                          refine wpO_nil ?_
                          refine wpL_nil (then_normal ?_)
                          exact ⟨true, Option.some.inj hj130, (Fr.pick (Fr.pick (Fr.pick hf.none hf rfl) hf rfl) hf rfl), hs.sel [3, 4] (by decide)⟩
                        · have hj130 := bif_f hj130 hb133
                          refine sYg hf hs rfl rfl rfl (congrArg (fun b => some (Value.bool b)) hb133) rfl rfl rfl (Y_move rfl rfl) ?_; clear hf; intro a hf
                          refine sYg hf hs rfl rfl rfl (congrArg (fun b => some (Value.bool b)) hb133) rfl rfl rfl (Y_move rfl rfl) ?_; clear hf; intro a hf
                          refine sYg hf hs rfl rfl rfl (congrArg (fun b => some (Value.bool b)) hb133) rfl rfl rfl (Y_neq rfl rfl rfl) ?_; clear hf; intro a hf
                          refine sY hf hs rfl rfl rfl (Y_pickF rfl (congrArg (fun b => some (Value.bool b)) hb133) rfl) ?_; clear hf; intro a hf
                          refine wpO_nil ?_
                          refine wpL_nil (then_normal ?_)
                          exact ⟨(r118.2 != r18.2), Option.some.inj hj130, (Fr.pick (Fr.pick (Fr.pick hf.none hf rfl) hf rfl) hf rfl), hs.sel [3, 4] (by decide)⟩
                      · rintro a w ⟨b128, hr_, hf, hs⟩
                        subst hr_
                        try dsimp only at hm
                        refine wpL_cond hf rfl (fun hb134 => ?_) (fun hb134 => ?_)
                        · have hm := bif_t hm hb134
                          refine wpL_seq ?_
                          refine wpL_region ?_
                          refine sY hf hs rfl rfl rfl (Y_assign rfl rfl) ?_; clear hf; intro a hf
                          refine wpO_nil ?_
                          obtain rfl := Option.some.inj hm
                          refine wpL_ret (ret_tmp rfl hf rfl ?_)
                          exact ⟨_, rfl, rfl, hs.sel [] (by decide)⟩
                        · have hm := bif_f hm hb134
                          refine wpL_skip ?_
                          refine wpL_seq ?_
                          refine wpL_region ?_
                          refine sY hf hs rfl rfl rfl (Y_assign rfl rfl) ?_; clear hf; intro a hf
                          refine wpO_nil ?_
                          refine wpL_seq ?_
                          refine wpL_region ?_
                          refine sY hf hs rfl rfl rfl (Y_load_blkS rfl rfl (i := 0) rfl ag63 ti63 rfl) ?_; clear hf; intro a hf
                          refine sY hf hs rfl rfl rfl (Y_move rfl rfl) ?_; clear hf; intro a hf
                          obtain ⟨r135, hc136, hm⟩ := bind_some hm
                          refine sCall hf rfl rfl rfl rfl (cap := []) rfl rfl en49 (laws_heldTimetable_ok F (GTimetable.mk r38.1.Period r99.2) A40 n41 c42 hn101 1 _ _ hc136 (hs.rd (i := 1) rfl)) ?_; clear hf
                          rintro _ w ⟨rfl, hs1⟩ a hf
                          have hs : St [] W w [.blk b44 63 [.int .i64 r38.1.Period, .slice A40 n41 c42], .row A40 n41 c42 2 1 (ints r99.2)] := hs.ext hs1.below
                          clear hs1
                          refine sY hf hs rfl rfl rfl (Y_assign rfl rfl) ?_; clear hf; intro a hf
                          refine wpO_nil ?_
                          refine wpL_seq ?_
                          refine wpL_seq ?_
                          refine wpL_region ?_
                          refine sY hf hs rfl rfl rfl (Y_move rfl rfl) ?_; clear hf; intro a hf
                          refine sY hf hs rfl rfl rfl (Y_lss rfl rfl rfl) ?_; clear hf; intro a hf
                          refine wpO_nil ?_
                          refine wpL_cond hf rfl (fun hb137 => ?_) (fun hb137 => ?_)
                          · have hm := bif_t hm hb137
                            refine wpL_seq ?_
                            refine wpL_region ?_
                            refine sY hf hs rfl rfl rfl (Y_assign rfl rfl) ?_; clear hf; intro a hf
                            refine wpO_nil ?_
                            obtain rfl := Option.some.inj hm
                            refine wpL_ret (ret_tmp rfl hf rfl ?_)
                            exact ⟨_, rfl, rfl, hs.sel [] (by decide)⟩
                          · have hm := bif_f hm hb137
                            refine wpL_skip ?_
                            refine wpL_seq ?_
                            refine wpL_seq ?_
                            refine wpL_region ?_
                            refine sY hf hs rfl rfl rfl (Y_move rfl rfl) ?_; clear hf; intro a hf
                            refine sY hf hs rfl rfl rfl (Y_move rfl rfl) ?_; clear hf; intro a hf
                            refine sY hf hs rfl rfl rfl (Y_neq rfl rfl rfl) ?_; clear hf; intro a hf
                            refine wpO_nil ?_
                            refine wpL_cond hf rfl (fun hb138 => ?_) (fun hb138 => ?_)
                            · have hm := bif_t hm hb138
                              refine wpL_seq ?_
                              refine wpL_region ?_
                              refine sY hf hs rfl rfl rfl (Y_assign rfl rfl) ?_; clear hf; intro a hf
                              refine wpO_nil ?_
                              obtain rfl := Option.some.inj hm
                              refine wpL_ret (ret_tmp rfl hf rfl ?_)
                              exact ⟨_, rfl, rfl, hs.sel [] (by decide)⟩
                            · have hm := bif_f hm hb138
                              refine wpL_skip ?_
                              refine wpL_seq ?_
                              refine wpL_region ?_
                              refine sY hf hs rfl rfl rfl (Y_assign rfl rfl) ?_; clear hf; intro a hf
                              refine wpO_nil ?_
                              obtain rfl := Option.some.inj hm
                              refine wpL_ret (ret_tmp rfl hf rfl ?_)
                              exact ⟨_, rfl, rfl, hs.sel [] (by decide)⟩

end Go.Proofs.Ytmijmamolmoheaa
