/- The functions do what their models say. -/
import Derived.Test.YtpmebacdmilecaaCriticalFiringsLifted3
import Derived.Test.YtpmebacdmilecaaRows
namespace Go.Proofs.Ytpmebacdmilecaa
open Go.RowKit

set_option maxHeartbeats 2000000 in
set_option maxRecDepth 100000 in
theorem laws_FnExactCriticalFirings_ok (F : Nat) (p0 : LEventGraph) (A_p0_1 : Option Addr) (n_p0_1 c_p0_1 : Nat) (hn_p0_1 : n_p0_1 = p0.Places.length) (p1 : List (List Int)) (A_p1_1 : Option Addr) (n_p1_1 c_p1_1 : Nat) (hn_p1_1 : n_p1_1 = p1.length) (r : Bool) (W : World) (hm : laws_FnExactCriticalFirings F p0 p1 = some r) (h_p0_1 : Rd W A_p0_1 ((recs LPlace.cells) p0.Places)) (h_p1_1 : RdM W A_p1_1 p1) :
    Calls Try.prog 13 [.agg #[.int .i64 p0.Events, .slice A_p0_1 n_p0_1 c_p0_1], .slice A_p1_1 n_p1_1 c_p1_1].toArray W fun e w' => ∃ v, e = .returned v ∧ v = .bool r ∧ St [] W w' [] := by
  subst hn_p0_1
  subst hn_p1_1
  unfold laws_FnExactCriticalFirings at hm
  refine Calls.enter (N := 119) Try.func13 rfl rfl rfl (fun a hf => ?_)
  have hs := St.start W
  obtain ⟨w, hw_⟩ : ∃ w, w = W := ⟨W, rfl⟩
  clear hw_ w
  refine wpL_seq ?_
  refine wpL_region ?_
  refine sBox hf hs rfl rfl rfl rfl rfl (cs := [.int .i64 p0.Events, .slice A_p0_1 p0.Places.length c_p0_1]) rfl ?_; clear hf hs; intro a w b1 hs hf
  have hs : St [] W w [.blk b1 35 [.int .i64 p0.Events, .slice A_p0_1 p0.Places.length c_p0_1]] := hs
  refine sY hf hs rfl rfl rfl (Y_assign rfl rfl) ?_; clear hf; intro a hf
  refine wpO_nil ?_
  refine wpL_seq ?_
  refine wpL_region ?_
  refine sY hf hs rfl rfl rfl (Y_assign rfl rfl) ?_; clear hf; intro a hf
  refine wpO_nil ?_
  refine wpL_seq ?_
  refine wpL_region ?_
  refine sY hf hs rfl rfl rfl (Y_load_blkS rfl rfl (i := 0) rfl ag35 ti35 rfl) ?_; clear hf; intro a hf
  refine sY hf hs rfl rfl rfl (Y_move rfl rfl) ?_; clear hf; intro a hf
  obtain ⟨r2, hc3, hm⟩ := bind_some hm
  refine sCall hf rfl rfl rfl rfl (cap := []) rfl rfl en24 (laws_szEventGraph_ok F p0 A_p0_1 p0.Places.length c_p0_1 rfl 1048576 _ _ hc3 (h_p0_1.at hs)) ?_; clear hf
  rintro _ w ⟨rfl, hs1⟩ a hf
  have hs : St [] W w [.blk b1 35 [.int .i64 p0.Events, .slice A_p0_1 p0.Places.length c_p0_1]] := hs.ext hs1.below
  clear hs1
  refine sY hf hs rfl rfl rfl (Y_assign rfl rfl) ?_; clear hf; intro a hf
  refine wpO_nil ?_
  refine wpL_seq ?_
  refine wpL_seq ?_
  refine wpL_region ?_
  refine sY hf hs rfl rfl rfl (Y_move rfl rfl) ?_; clear hf; intro a hf
  refine sY hf hs rfl rfl rfl (Y_lss rfl rfl rfl) ?_; clear hf; intro a hf
  refine wpO_nil ?_
  refine wpL_cond hf rfl (fun hb4 => ?_) (fun hb4 => ?_)
  · have hm := bif_t hm hb4
    refine wpL_seq ?_
    refine wpL_region ?_
    refine sY hf hs rfl rfl rfl (Y_assign rfl rfl) ?_; clear hf; intro a hf
    refine wpO_nil ?_
    obtain rfl := Option.some.inj hm
    refine wpL_ret (ret_tmp rfl hf rfl ?_)
    exact ⟨_, rfl, rfl, hs.sel [] (by decide)⟩
  · have hm := bif_f hm hb4
    refine wpL_skip ?_
    refine wpL_seq ?_
    refine wpL_region ?_
    refine sY hf hs rfl rfl rfl (Y_move rfl rfl) ?_; clear hf; intro a hf
    refine sY hf hs rfl rfl rfl (Y_move rfl rfl) ?_; clear hf; intro a hf
    obtain ⟨r5, hc6, hm⟩ := bind_some hm
    refine sCall hf rfl rfl rfl rfl (cap := []) rfl rfl en52 (laws_szInt64SS_ok F p1 A_p1_1 p1.length c_p1_1 rfl r2 _ _ hc6 (h_p1_1.at hs)) ?_; clear hf
    rintro _ w ⟨rfl, hs1⟩ a hf
    have hs : St [] W w [.blk b1 35 [.int .i64 p0.Events, .slice A_p0_1 p0.Places.length c_p0_1]] := hs.ext hs1.below
    clear hs1
    refine sY hf hs rfl rfl rfl (Y_assign rfl rfl) ?_; clear hf; intro a hf
    refine wpO_nil ?_
    refine wpL_seq ?_
    refine wpL_seq ?_
    refine wpL_region ?_
    refine sY hf hs rfl rfl rfl (Y_move rfl rfl) ?_; clear hf; intro a hf
    refine sY hf hs rfl rfl rfl (Y_lss rfl rfl rfl) ?_; clear hf; intro a hf
    refine wpO_nil ?_
    refine wpL_cond hf rfl (fun hb7 => ?_) (fun hb7 => ?_)
    · have hm := bif_t hm hb7
      refine wpL_seq ?_
      refine wpL_region ?_
      refine sY hf hs rfl rfl rfl (Y_assign rfl rfl) ?_; clear hf; intro a hf
      refine wpO_nil ?_
      obtain rfl := Option.some.inj hm
      refine wpL_ret (ret_tmp rfl hf rfl ?_)
      exact ⟨_, rfl, rfl, hs.sel [] (by decide)⟩
    · have hm := bif_f hm hb7
      refine wpL_skip ?_
      refine wpL_seq ?_
      refine wpL_region ?_
      refine sY hf hs rfl rfl rfl (Y_load_blkS rfl rfl (i := 0) rfl ag35 ti35 rfl) ?_; clear hf; intro a hf
      obtain ⟨r8, hc9, hm⟩ := bind_some hm
      refine sCall hf rfl rfl rfl rfl (cap := []) rfl rfl en26 (laws_toEventGraph_ok F p0 A_p0_1 p0.Places.length c_p0_1 rfl _ _ hc9 (h_p0_1.at hs)) ?_; clear hf
      rintro _ w ⟨A10, n11, c12, rfl, hn13, hs1⟩ a hf
      have hs : St [] W w [.blk b1 35 [.int .i64 p0.Events, .slice A_p0_1 p0.Places.length c_p0_1], .row A10 n11 c12 96 4 ((recs GPlace.cells) r8.Places)] := hs.join hs1
      clear hs1
      refine sY hf hs rfl rfl rfl (Y_move rfl rfl) ?_; clear hf; intro a hf
      obtain ⟨r14, hc15, hm⟩ := bind_some hm
      refine sCall hf rfl rfl rfl rfl (cap := []) rfl rfl en54 (laws_toInt64SS_ok F p1 A_p1_1 p1.length c_p1_1 rfl _ _ hc15 (h_p1_1.at hs)) ?_; clear hf
      rintro _ w ⟨A16, n17, c18, vs20, rfl, hn19, hs1⟩ a hf
      have hs : St [] W w [.blk b1 35 [.int .i64 p0.Events, .slice A_p0_1 p0.Places.length c_p0_1], .row A10 n11 c12 96 4 ((recs GPlace.cells) r8.Places), .mat A16 n17 c18 23 2 vs20 r14] := hs.join hs1
      clear hs1
      obtain ⟨r21, hc22, hm⟩ := bind_some hm
      refine sCall hf rfl rfl rfl rfl (cap := []) rfl rfl en60 (spec_CriticalFirings_ok F r8 A10 n11 c12 hn13 r14 A16 n17 c18 hn19 _ _ hc22 (hs.rd (i := 1) rfl) (hs.rdM (i := 2) rfl)) ?_; clear hf
      rintro _ w ⟨A23, n24, c25, vs27, rfl, hn26, hs1⟩ a hf
      have hs : St [] W w [.blk b1 35 [.int .i64 p0.Events, .slice A_p0_1 p0.Places.length c_p0_1], .row A10 n11 c12 96 4 ((recs GPlace.cells) r8.Places), .mat A16 n17 c18 23 2 vs20 r14, .mat A23 n24 c25 23 2 vs27 r21.1] := hs.join hs1
      clear hs1
      refine sY hf hs rfl rfl rfl (Y_move rfl rfl) ?_; clear hf; intro a hf
      refine sY hf hs rfl rfl rfl (Y_extract rfl rfl rfl) ?_; clear hf; intro a hf
      refine sY hf hs rfl rfl rfl (Y_extract rfl rfl rfl) ?_; clear hf; intro a hf
      refine sY hf hs rfl rfl rfl (Y_assign rfl rfl) ?_; clear hf; intro a hf
      refine sY hf hs rfl rfl rfl (Y_assign rfl rfl) ?_; clear hf; intro a hf
      refine wpO_nil ?_
      refine wpL_seq ?_
      refine wpL_region ?_
      refine sY hf hs rfl rfl rfl (Y_load_blkS rfl rfl (i := 0) rfl ag35 ti35 rfl) ?_; clear hf; intro a hf
      obtain ⟨r28, hc29, hm⟩ := bind_some hm
      refine sCall hf rfl rfl rfl rfl (cap := []) rfl rfl en26 (laws_toEventGraph_ok F p0 A_p0_1 p0.Places.length c_p0_1 rfl _ _ hc29 (h_p0_1.at hs)) ?_; clear hf
      rintro _ w ⟨A30, n31, c32, rfl, hn33, hs1⟩ a hf
      have hs : St [] W w [.blk b1 35 [.int .i64 p0.Events, .slice A_p0_1 p0.Places.length c_p0_1], .row A10 n11 c12 96 4 ((recs GPlace.cells) r8.Places), .mat A16 n17 c18 23 2 vs20 r14, .mat A23 n24 c25 23 2 vs27 r21.1, .row A30 n31 c32 96 4 ((recs GPlace.cells) r28.Places)] := hs.join hs1
      clear hs1
      refine sAlloc hf hs rfl rfl rfl rfl ti39 ?_; clear hf hs; intro a w b34 hs hf
      have hs : St [] W w [.blk b1 35 [.int .i64 p0.Events, .slice A_p0_1 p0.Places.length c_p0_1], .row A10 n11 c12 96 4 ((recs GPlace.cells) r8.Places), .mat A16 n17 c18 23 2 vs20 r14, .mat A23 n24 c25 23 2 vs27 r21.1, .row A30 n31 c32 96 4 ((recs GPlace.cells) r28.Places), .blk b34 39 [.int .i64 0, .slice none 0 0]] := hs
      refine sStore (i := 5) (us := [.int .i64 r28.Events, .slice A30 n31 c32]) hf hs rfl rfl rfl rfl rfl rfl ti39 rfl rfl rfl (Nat.le_of_ble_eq_true rfl) rfl ?_; clear hs; intro w hs
      have hs : St [] W w [.blk b1 35 [.int .i64 p0.Events, .slice A_p0_1 p0.Places.length c_p0_1], .row A10 n11 c12 96 4 ((recs GPlace.cells) r8.Places), .mat A16 n17 c18 23 2 vs20 r14, .mat A23 n24 c25 23 2 vs27 r21.1, .row A30 n31 c32 96 4 ((recs GPlace.cells) r28.Places), .blk b34 39 [.int .i64 r28.Events, .slice A30 n31 c32]] := hs
      refine wpO_nil ?_
      refine wpL_seq ?_
      refine wpL_region ?_
      refine sY hf hs rfl rfl rfl (Y_move rfl rfl) ?_; clear hf; intro a hf
      obtain ⟨r35, hc36, hm⟩ := bind_some hm
      refine sCall hf rfl rfl rfl rfl (cap := []) rfl rfl en54 (laws_toInt64SS_ok F p1 A_p1_1 p1.length c_p1_1 rfl _ _ hc36 (h_p1_1.at hs)) ?_; clear hf
      rintro _ w ⟨A37, n38, c39, vs41, rfl, hn40, hs1⟩ a hf
      have hs : St [] W w [.blk b1 35 [.int .i64 p0.Events, .slice A_p0_1 p0.Places.length c_p0_1], .row A10 n11 c12 96 4 ((recs GPlace.cells) r8.Places), .mat A16 n17 c18 23 2 vs20 r14, .mat A23 n24 c25 23 2 vs27 r21.1, .row A30 n31 c32 96 4 ((recs GPlace.cells) r28.Places), .blk b34 39 [.int .i64 r28.Events, .slice A30 n31 c32], .mat A37 n38 c39 23 2 vs41 r35] := hs.join hs1
      clear hs1
      refine sY hf hs rfl rfl rfl (Y_assign rfl rfl) ?_; clear hf; intro a hf
      refine wpO_nil ?_
      refine wpL_seq ?_
      refine wpL_region ?_
      refine sY hf hs rfl rfl rfl (Y_load_blkS rfl rfl (i := 5) rfl ag39 ti39 rfl) ?_; clear hf; intro a hf
      refine sY hf hs rfl rfl rfl (Y_move rfl rfl) ?_; clear hf; intro a hf
      obtain ⟨r42, hc43, hm⟩ := bind_some hm
      refine sCall hf rfl rfl rfl rfl (cap := []) rfl rfl en61 (impl_CriticalFirings_ok F r28 A30 n31 c32 hn33 r35 A37 n38 c39 hn40 _ _ hc43 (hs.rd (i := 4) rfl) (hs.rdM (i := 6) rfl)) ?_; clear hf
      rintro _ w ⟨A44, n45, c46, vs48, rfl, hn47, hs1⟩ a hf
      have hs : St [] W w [.blk b1 35 [.int .i64 p0.Events, .slice A_p0_1 p0.Places.length c_p0_1], .row A10 n11 c12 96 4 ((recs GPlace.cells) r8.Places), .mat A16 n17 c18 23 2 vs20 r14, .mat A23 n24 c25 23 2 vs27 r21.1, .row A30 n31 c32 96 4 ((recs GPlace.cells) r28.Places), .blk b34 39 [.int .i64 r28.Events, .slice A30 n31 c32], .mat A37 n38 c39 23 2 vs41 r35, .mat A44 n45 c46 23 2 vs48 r42.1] := hs.join hs1
      clear hs1
      refine sY hf hs rfl rfl rfl (Y_move rfl rfl) ?_; clear hf; intro a hf
      refine sY hf hs rfl rfl rfl (Y_extract rfl rfl rfl) ?_; clear hf; intro a hf
      refine sY hf hs rfl rfl rfl (Y_extract rfl rfl rfl) ?_; clear hf; intro a hf
      refine sY hf hs rfl rfl rfl (Y_assign rfl rfl) ?_; clear hf; intro a hf
      refine sY hf hs rfl rfl rfl (Y_assign rfl rfl) ?_; clear hf; intro a hf
      refine wpO_nil ?_
      refine wpL_seq ?_
      refine wpL_seq ?_
      obtain ⟨r53, hj54, hm⟩ := bind_some hm
      refine wpL_cut (fun a w => ∃ b52 : Bool, b52 = r53 ∧ Fr a 119 [(1, .slice A_p1_1 p1.length c_p1_1), (2, .pointer (some ⟨b1, 0, none⟩)), (6, .slice A23 n24 c25), (7, .int .i64 r21.2), (8, .pointer (some ⟨b34, 0, none⟩)), (9, .slice A37 n38 c39), (10, .slice A44 n45 c46), (11, .int .i64 r42.2), (53, .bool b52)] ∧ St [] W w [.blk b1 35 [.int .i64 p0.Events, .slice A_p0_1 p0.Places.length c_p0_1], .mat A23 n24 c25 23 2 vs27 r21.1, .blk b34 39 [.int .i64 r28.Events, .slice A30 n31 c32], .row A30 n31 c32 96 4 ((recs GPlace.cells) r28.Places), .mat A37 n38 c39 23 2 vs41 r35, .mat A44 n45 c46 23 2 vs48 r42.1]) ?_ ?_
      · refine wpL_region ?_
        refine sY hf hs rfl rfl rfl (Y_move rfl rfl) ?_; clear hf; intro a hf
        refine sY hf hs rfl rfl rfl (Y_move rfl rfl) ?_; clear hf; intro a hf
        obtain ⟨r55, hc56, hj54⟩ := bind_some hj54
        refine sCall hf rfl rfl rfl rfl (cap := []) rfl rfl en35 (laws_eqInt64SS_ok F r42.1 A44 n45 c46 hn47 r21.1 A23 n24 c25 hn26 _ _ hc56 (hs.rdM (i := 7) rfl) (hs.rdM (i := 3) rfl)) ?_; clear hf
        rintro _ w ⟨rfl, hs1⟩ a hf
        have hs : St [] W w [.blk b1 35 [.int .i64 p0.Events, .slice A_p0_1 p0.Places.length c_p0_1], .row A10 n11 c12 96 4 ((recs GPlace.cells) r8.Places), .mat A16 n17 c18 23 2 vs20 r14, .mat A23 n24 c25 23 2 vs27 r21.1, .row A30 n31 c32 96 4 ((recs GPlace.cells) r28.Places), .blk b34 39 [.int .i64 r28.Events, .slice A30 n31 c32], .mat A37 n38 c39 23 2 vs41 r35, .mat A44 n45 c46 23 2 vs48 r42.1] := hs.ext hs1.below
        clear hs1
        refine sY hf hs rfl rfl rfl (Y_not rfl rfl) ?_; clear hf; intro a hf
        refine sY hf hs rfl rfl rfl (Y_move rfl rfl) ?_; clear hf; intro a hf
        refine bsplit (!r55) (fun hb57 => ?_) (fun hb57 => ?_)
        · have hj54 := bif_t hj54 hb57
          refine sNo hf rfl rfl rfl (congrArg (fun b => some (Value.bool b)) hb57) rfl rfl rfl ?_; clear hf; intro a hf
          refine sNo hf rfl rfl rfl (congrArg (fun b => some (Value.bool b)) hb57) rfl rfl rfl ?_; clear hf; intro a hf
          refine sNo hf rfl rfl rfl (congrArg (fun b => some (Value.bool b)) hb57) rfl rfl rfl ?_; clear hf; intro a hf
          refine sY hf hs rfl rfl rfl (Y_pickT rfl (congrArg (fun b => some (Value.bool b)) hb57) rfl) ?_; clear hf; intro a hf
          refine wpO_nil ?_
          refine wpL_nil (then_normal ?_)
          exact ⟨true, Option.some.inj hj54, (FrD.pick (FrD.pick (FrD.pick (FrD.pick (FrD.pick (FrD.pick (FrD.pick (FrD.pick (FrD.pick hf.none hf rfl) hf rfl) hf rfl) hf rfl) hf rfl) hf rfl) hf rfl) hf rfl) hf rfl), hs.sel [0, 3, 5, 4, 6, 7] (by decide)⟩
        · have hj54 := bif_f hj54 hb57
          refine sYg hf hs rfl rfl rfl (congrArg (fun b => some (Value.bool b)) hb57) rfl rfl rfl (Y_move rfl rfl) ?_; clear hf; intro a hf
          refine sYg hf hs rfl rfl rfl (congrArg (fun b => some (Value.bool b)) hb57) rfl rfl rfl (Y_move rfl rfl) ?_; clear hf; intro a hf
          refine sYg hf hs rfl rfl rfl (congrArg (fun b => some (Value.bool b)) hb57) rfl rfl rfl (Y_neq rfl rfl rfl) ?_; clear hf; intro a hf
          refine sY hf hs rfl rfl rfl (Y_pickF rfl (congrArg (fun b => some (Value.bool b)) hb57) rfl) ?_; clear hf; intro a hf
          refine wpO_nil ?_
          refine wpL_nil (then_normal ?_)
          exact ⟨(r42.2 != r21.2), Option.some.inj hj54, (FrD.pick (FrD.pick (FrD.pick (FrD.pick (FrD.pick (FrD.pick (FrD.pick (FrD.pick (FrD.pick hf.none hf rfl) hf rfl) hf rfl) hf rfl) hf rfl) hf rfl) hf rfl) hf rfl) hf rfl), hs.sel [0, 3, 5, 4, 6, 7] (by decide)⟩
      · rintro a w ⟨b52, hr_, hf, hs⟩
        subst hr_
        try dsimp only at hm
        refine wpL_cond hf rfl (fun hb58 => ?_) (fun hb58 => ?_)
        · have hm := bif_t hm hb58
          refine wpL_seq ?_
          refine wpL_region ?_
          refine sY hf hs rfl rfl rfl (Y_assign rfl rfl) ?_; clear hf; intro a hf
          refine wpO_nil ?_
          obtain rfl := Option.some.inj hm
          refine wpL_ret (ret_tmp rfl hf rfl ?_)
          exact ⟨_, rfl, rfl, hs.sel [] (by decide)⟩
        · have hm := bif_f hm hb58
          refine wpL_skip ?_
          refine wpL_seq ?_
          refine wpL_seq ?_
          refine wpL_drawM [.blk b1 35 [.int .i64 p0.Events, .slice A_p0_1 p0.Places.length c_p0_1], .mat A23 n24 c25 23 2 vs27 r21.1, .blk b34 39 [.int .i64 r28.Events, .slice A30 n31 c32], .row A30 n31 c32 96 4 ((recs GPlace.cells) r28.Places), .mat A37 n38 c39 23 2 vs41 r35, .mat A44 n45 c46 23 2 vs48 r42.1] [3] (by kernel_rfl) hs ?_; clear hs; intro w hs
          have hs0 : St [] W w [.blk b1 35 [.int .i64 p0.Events, .slice A_p0_1 p0.Places.length c_p0_1], .mat A23 n24 c25 23 2 vs27 r21.1, .blk b34 39 [.int .i64 r28.Events, .slice A30 n31 c32], .row A30 n31 c32 96 4 ((recs GPlace.cells) r28.Places), .mat A37 n38 c39 23 2 vs41 r35, .mat A44 n45 c46 23 2 vs48 r42.1] := hs
          refine mY (i := 0) [[]] rfl (by kernel_rfl) (by kernel_rfl) hf hs0 rfl rfl rfl (Y_load_blkS rfl rfl (i := 2) rfl ag39 ti39 rfl) ?_; clear hf; intro a hf
          refine mY (i := 1) [[2]] rfl (by kernel_rfl) (by kernel_rfl) hf hs0 rfl rfl rfl (Y_load_blkS rfl rfl (i := 0) rfl ag35 ti35 rfl) ?_; clear hf; intro a hf
          refine mRun (i := 2) rfl (by kernel_rfl) ?_
          obtain ⟨r67, hc68, hm⟩ := bind_some hm
          refine sCall hf rfl rfl rfl rfl (cap := []) rfl rfl en26 (laws_toEventGraph_ok F p0 A_p0_1 p0.Places.length c_p0_1 rfl _ _ hc68 (h_p0_1.at hs)) ?_; clear hf
          rintro _ w ⟨A69, n70, c71, rfl, hn72, hs1⟩ a hf
          have hs : St [] W w [.blk b1 35 [.int .i64 p0.Events, .slice A_p0_1 p0.Places.length c_p0_1], .mat A23 n24 c25 23 2 vs27 r21.1, .blk b34 39 [.int .i64 r28.Events, .slice A30 n31 c32], .row A30 n31 c32 96 4 ((recs GPlace.cells) r28.Places), .mat A37 n38 c39 23 2 vs41 r35, .mat A44 n45 c46 23 2 vs48 r42.1, .row A69 n70 c71 96 4 ((recs GPlace.cells) r67.Places)] := hs.join hs1
          clear hs1
          have hs0 : St [] W w [.blk b1 35 [.int .i64 p0.Events, .slice A_p0_1 p0.Places.length c_p0_1], .mat A23 n24 c25 23 2 vs27 r21.1, .blk b34 39 [.int .i64 r28.Events, .slice A30 n31 c32], .row A30 n31 c32 96 4 ((recs GPlace.cells) r28.Places), .mat A37 n38 c39 23 2 vs41 r35, .mat A44 n45 c46 23 2 vs48 r42.1] := hs.sel [0, 1, 2, 3, 4, 5] (by decide)
          refine wpO_nil ⟨Or.inr (fun _ => hs0), ?_⟩
          refine mRun (i := 3) rfl (by kernel_rfl) ?_
          obtain ⟨r73, hc74, hm⟩ := bind_some hm
          refine sCall hf rfl rfl rfl rfl (cap := []) rfl rfl en28 (laws_eqEventGraph_ok F r28 A30 n31 c32 hn33 r67 A69 n70 c71 hn72 _ _ hc74 (hs.rd (i := 3) rfl) (hs.rd (i := 6) rfl)) ?_; clear hf
          rintro _ w ⟨rfl, hs1⟩ a hf
          have hs : St [] W w [.blk b1 35 [.int .i64 p0.Events, .slice A_p0_1 p0.Places.length c_p0_1], .mat A23 n24 c25 23 2 vs27 r21.1, .blk b34 39 [.int .i64 r28.Events, .slice A30 n31 c32], .row A30 n31 c32 96 4 ((recs GPlace.cells) r28.Places), .mat A37 n38 c39 23 2 vs41 r35, .mat A44 n45 c46 23 2 vs48 r42.1, .row A69 n70 c71 96 4 ((recs GPlace.cells) r67.Places)] := hs.ext hs1.below
          clear hs1
          refine wpO_nil ⟨Or.inl (by decide), ?_⟩
          refine mYp (i := 4) rfl (by kernel_rfl) (by kernel_rfl) hf rfl rfl rfl (fun _ => Y_not rfl rfl) ?_; clear hf; intro a hf
          refine mDone (by kernel_rfl) ?_
          clear hs0
          refine wpL_cond hf rfl (fun hb75 => ?_) (fun hb75 => ?_)
          · have hm := bif_t hm hb75
            refine wpL_seq ?_
            refine wpL_region ?_
            refine sY hf hs rfl rfl rfl (Y_assign rfl rfl) ?_; clear hf; intro a hf
            refine wpO_nil ?_
            obtain rfl := Option.some.inj hm
            refine wpL_ret (ret_tmp rfl hf rfl ?_)
            exact ⟨_, rfl, rfl, hs.sel [] (by decide)⟩
          · have hm := bif_f hm hb75
            refine wpL_skip ?_
            refine wpL_seq ?_
            refine wpL_seq ?_
            refine wpL_region ?_
            refine sY hf hs rfl rfl rfl (Y_move rfl rfl) ?_; clear hf; intro a hf
            refine sY hf hs rfl rfl rfl (Y_move rfl rfl) ?_; clear hf; intro a hf
            obtain ⟨r76, hc77, hm⟩ := bind_some hm
            refine sCall hf rfl rfl rfl rfl (cap := []) rfl rfl en54 (laws_toInt64SS_ok F p1 A_p1_1 p1.length c_p1_1 rfl _ _ hc77 (h_p1_1.at hs)) ?_; clear hf
            rintro _ w ⟨A78, n79, c80, vs82, rfl, hn81, hs1⟩ a hf
            have hs : St [] W w [.blk b1 35 [.int .i64 p0.Events, .slice A_p0_1 p0.Places.length c_p0_1], .mat A23 n24 c25 23 2 vs27 r21.1, .blk b34 39 [.int .i64 r28.Events, .slice A30 n31 c32], .row A30 n31 c32 96 4 ((recs GPlace.cells) r28.Places), .mat A37 n38 c39 23 2 vs41 r35, .mat A44 n45 c46 23 2 vs48 r42.1, .row A69 n70 c71 96 4 ((recs GPlace.cells) r67.Places), .mat A78 n79 c80 23 2 vs82 r76] := hs.join hs1
            clear hs1
            obtain ⟨r83, hc84, hm⟩ := bind_some hm
            refine sCall hf rfl rfl rfl rfl (cap := []) rfl rfl en35 (laws_eqInt64SS_ok F r35 A37 n38 c39 hn40 r76 A78 n79 c80 hn81 _ _ hc84 (hs.rdM (i := 4) rfl) (hs.rdM (i := 7) rfl)) ?_; clear hf
            rintro _ w ⟨rfl, hs1⟩ a hf
            have hs : St [] W w [.blk b1 35 [.int .i64 p0.Events, .slice A_p0_1 p0.Places.length c_p0_1], .mat A23 n24 c25 23 2 vs27 r21.1, .blk b34 39 [.int .i64 r28.Events, .slice A30 n31 c32], .row A30 n31 c32 96 4 ((recs GPlace.cells) r28.Places), .mat A37 n38 c39 23 2 vs41 r35, .mat A44 n45 c46 23 2 vs48 r42.1, .row A69 n70 c71 96 4 ((recs GPlace.cells) r67.Places), .mat A78 n79 c80 23 2 vs82 r76] := hs.ext hs1.below
            clear hs1
            refine sY hf hs rfl rfl rfl (Y_not rfl rfl) ?_; clear hf; intro a hf
            refine wpO_nil ?_
            refine wpL_cond hf rfl (fun hb85 => ?_) (fun hb85 => ?_)
            · have hm := bif_t hm hb85
              refine wpL_seq ?_
              refine wpL_region ?_
              refine sY hf hs rfl rfl rfl (Y_assign rfl rfl) ?_; clear hf; intro a hf
              refine wpO_nil ?_
              obtain rfl := Option.some.inj hm
              refine wpL_ret (ret_tmp rfl hf rfl ?_)
              exact ⟨_, rfl, rfl, hs.sel [] (by decide)⟩
            · have hm := bif_f hm hb85
              refine wpL_skip ?_
              refine wpL_seq ?_
              refine wpL_region ?_
              refine sY hf hs rfl rfl rfl (Y_assign rfl rfl) ?_; clear hf; intro a hf
              refine wpO_nil ?_
              refine wpL_seq ?_
              refine wpL_region ?_
              refine sY hf hs rfl rfl rfl (Y_load_blkS rfl rfl (i := 2) rfl ag39 ti39 rfl) ?_; clear hf; intro a hf
              refine sY hf hs rfl rfl rfl (Y_move rfl rfl) ?_; clear hf; intro a hf
              obtain ⟨r86, hc87, hm⟩ := bind_some hm
              refine sCall hf rfl rfl rfl rfl (cap := []) rfl rfl en29 (laws_markEventGraph_ok F r28 A30 n31 c32 hn33 1 _ _ hc87 (hs.res _ _ (show _[3]? = some _ from rfl))) ?_; clear hf
              rintro _ w ⟨rfl, hn88, hs1⟩ a hf
              have hs : St [] W w [.blk b1 35 [.int .i64 p0.Events, .slice A_p0_1 p0.Places.length c_p0_1], .mat A23 n24 c25 23 2 vs27 r21.1, .blk b34 39 [.int .i64 r28.Events, .slice A30 n31 c32], .row A30 n31 c32 96 4 ((recs GPlace.cells) r86.2), .mat A37 n38 c39 23 2 vs41 r35, .mat A44 n45 c46 23 2 vs48 r42.1, .row A69 n70 c71 96 4 ((recs GPlace.cells) r67.Places), .mat A78 n79 c80 23 2 vs82 r76] := hs.mut (i := 3) rfl (fun b hb => muA_mem hb) hs1
              clear hs1
              refine sY hf hs rfl rfl rfl (Y_assign rfl rfl) ?_; clear hf; intro a hf
              refine wpO_nil ?_
              refine wpL_seq ?_
              refine wpL_region ?_
              refine sY hf hs rfl rfl rfl (Y_move rfl rfl) ?_; clear hf; intro a hf
              refine sY hf hs rfl rfl rfl (Y_move rfl rfl) ?_; clear hf; intro a hf
              obtain ⟨r89, hc90, hm⟩ := bind_some hm
              refine sCall hf rfl rfl rfl rfl (cap := []) rfl rfl en36 (laws_markInt64SS_ok F r35 A37 n38 c39 hn40 vs41 r86.1 _ _ hc90 (hs.res _ _ (show _[4]? = some _ from rfl))) ?_; clear hf
              rintro _ w ⟨rfl, hn91, hs1⟩ a hf
              have hs : St [] W w [.blk b1 35 [.int .i64 p0.Events, .slice A_p0_1 p0.Places.length c_p0_1], .mat A23 n24 c25 23 2 vs27 r21.1, .blk b34 39 [.int .i64 r28.Events, .slice A30 n31 c32], .row A30 n31 c32 96 4 ((recs GPlace.cells) r86.2), .mat A37 n38 c39 23 2 vs41 r89.2, .mat A44 n45 c46 23 2 vs48 r42.1, .row A69 n70 c71 96 4 ((recs GPlace.cells) r67.Places), .mat A78 n79 c80 23 2 vs82 r76] := hs.mut (i := 4) rfl (fun b hb => muM_mem.1 hb) hs1
              clear hs1
              refine sY hf hs rfl rfl rfl (Y_assign rfl rfl) ?_; clear hf; intro a hf
              refine wpO_nil ?_
              refine wpL_seq ?_
              refine wpL_seq ?_
              obtain ⟨r97, hj98, hm⟩ := bind_some hm
              refine wpL_cut (fun a w => ∃ b96 : Bool, b96 = r97 ∧ Fr a 119 [(1, .slice A_p1_1 p1.length c_p1_1), (2, .pointer (some ⟨b1, 0, none⟩)), (6, .slice A23 n24 c25), (7, .int .i64 r21.2), (10, .slice A44 n45 c46), (82, .bool b96)] ∧ St [] W w [.blk b1 35 [.int .i64 p0.Events, .slice A_p0_1 p0.Places.length c_p0_1], .mat A23 n24 c25 23 2 vs27 r21.1, .mat A44 n45 c46 23 2 vs48 r42.1]) ?_ ?_
              · refine wpL_region ?_
                refine sY hf hs rfl rfl rfl (Y_move rfl rfl) ?_; clear hf; intro a hf
                refine sY hf hs rfl rfl rfl (Y_lss rfl rfl rfl) ?_; clear hf; intro a hf
                refine sY hf hs rfl rfl rfl (Y_move rfl rfl) ?_; clear hf; intro a hf
                refine bsplit (decide (r89.1 < 0)) (fun hb99 => ?_) (fun hb99 => ?_)
                · have hj98 := bif_t hj98 hb99
                  refine sNo hf rfl rfl rfl (congrArg (fun b => some (Value.bool b)) hb99) rfl rfl rfl ?_; clear hf; intro a hf
                  refine sNo hf rfl rfl rfl (congrArg (fun b => some (Value.bool b)) hb99) rfl rfl rfl ?_; clear hf; intro a hf
                  refine sNo hf rfl rfl rfl (congrArg (fun b => some (Value.bool b)) hb99) rfl rfl rfl ?_; clear hf; intro a hf
                  refine sNo hf rfl rfl rfl (congrArg (fun b => some (Value.bool b)) hb99) rfl rfl rfl ?_; clear hf; intro a hf
                  refine sY hf hs rfl rfl rfl (Y_pickT rfl (congrArg (fun b => some (Value.bool b)) hb99) rfl) ?_; clear hf; intro a hf
                  refine sY hf hs rfl rfl rfl (Y_move rfl rfl) ?_; clear hf; intro a hf
                  refine sNo hf rfl rfl rfl rfl rfl rfl rfl ?_; clear hf; intro a hf
                  refine sNo hf rfl rfl rfl rfl rfl rfl rfl ?_; clear hf; intro a hf
                  refine sNo hf rfl rfl rfl rfl rfl rfl rfl ?_; clear hf; intro a hf
                  refine sY hf hs rfl rfl rfl (Y_pickT rfl rfl rfl) ?_; clear hf; intro a hf
                  refine wpO_nil ?_
                  refine wpL_nil (then_normal ?_)
                  exact ⟨true, Option.some.inj hj98, (FrD.pick (FrD.pick (FrD.pick (FrD.pick (FrD.pick (FrD.pick hf.none hf rfl) hf rfl) hf rfl) hf rfl) hf rfl) hf rfl), hs.sel [0, 1, 5] (by decide)⟩
                · have hj98 := bif_f hj98 hb99
                  refine sYg hf hs rfl rfl rfl (congrArg (fun b => some (Value.bool b)) hb99) rfl rfl rfl (Y_move rfl rfl) ?_; clear hf; intro a hf
                  refine sYg hf hs rfl rfl rfl (congrArg (fun b => some (Value.bool b)) hb99) rfl rfl rfl (Y_move rfl rfl) ?_; clear hf; intro a hf
                  obtain ⟨r100, hc101, hj98⟩ := bind_some hj98
                  refine sCallg hf rfl rfl rfl (congrArg (fun b => some (Value.bool b)) hb99) rfl rfl rfl rfl (cap := []) rfl rfl en35 (laws_eqInt64SS_ok F r42.1 A44 n45 c46 hn47 r21.1 A23 n24 c25 hn26 _ _ hc101 (hs.rdM (i := 5) rfl) (hs.rdM (i := 1) rfl)) ?_; clear hf
                  rintro _ w ⟨rfl, hs1⟩ a hf
                  have hs : St [] W w [.blk b1 35 [.int .i64 p0.Events, .slice A_p0_1 p0.Places.length c_p0_1], .mat A23 n24 c25 23 2 vs27 r21.1, .blk b34 39 [.int .i64 r28.Events, .slice A30 n31 c32], .row A30 n31 c32 96 4 ((recs GPlace.cells) r86.2), .mat A37 n38 c39 23 2 vs41 r89.2, .mat A44 n45 c46 23 2 vs48 r42.1, .row A69 n70 c71 96 4 ((recs GPlace.cells) r67.Places), .mat A78 n79 c80 23 2 vs82 r76] := hs.ext hs1.below
                  clear hs1
                  refine sYg hf hs rfl rfl rfl (congrArg (fun b => some (Value.bool b)) hb99) rfl rfl rfl (Y_not rfl rfl) ?_; clear hf; intro a hf
                  refine sY hf hs rfl rfl rfl (Y_pickF rfl (congrArg (fun b => some (Value.bool b)) hb99) rfl) ?_; clear hf; intro a hf
                  refine sY hf hs rfl rfl rfl (Y_move rfl rfl) ?_; clear hf; intro a hf
                  refine bsplit (!r100) (fun hb102 => ?_) (fun hb102 => ?_)
                  · have hj98 := bif_t hj98 hb102
                    refine sNo hf rfl rfl rfl (congrArg (fun b => some (Value.bool b)) hb102) rfl rfl rfl ?_; clear hf; intro a hf
                    refine sNo hf rfl rfl rfl (congrArg (fun b => some (Value.bool b)) hb102) rfl rfl rfl ?_; clear hf; intro a hf
                    refine sNo hf rfl rfl rfl (congrArg (fun b => some (Value.bool b)) hb102) rfl rfl rfl ?_; clear hf; intro a hf
                    refine sY hf hs rfl rfl rfl (Y_pickT rfl (congrArg (fun b => some (Value.bool b)) hb102) rfl) ?_; clear hf; intro a hf
                    refine wpO_nil ?_
                    refine wpL_nil (then_normal ?_)
                    exact ⟨true, Option.some.inj hj98, (FrD.pick (FrD.pick (FrD.pick (FrD.pick (FrD.pick (FrD.pick hf.none hf rfl) hf rfl) hf rfl) hf rfl) hf rfl) hf rfl), hs.sel [0, 1, 5] (by decide)⟩
                  · have hj98 := bif_f hj98 hb102
                    refine sYg hf hs rfl rfl rfl (congrArg (fun b => some (Value.bool b)) hb102) rfl rfl rfl (Y_move rfl rfl) ?_; clear hf; intro a hf
                    refine sYg hf hs rfl rfl rfl (congrArg (fun b => some (Value.bool b)) hb102) rfl rfl rfl (Y_move rfl rfl) ?_; clear hf; intro a hf
                    refine sYg hf hs rfl rfl rfl (congrArg (fun b => some (Value.bool b)) hb102) rfl rfl rfl (Y_neq rfl rfl rfl) ?_; clear hf; intro a hf
                    refine sY hf hs rfl rfl rfl (Y_pickF rfl (congrArg (fun b => some (Value.bool b)) hb102) rfl) ?_; clear hf; intro a hf
                    refine wpO_nil ?_
                    refine wpL_nil (then_normal ?_)
                    exact ⟨(r42.2 != r21.2), Option.some.inj hj98, (FrD.pick (FrD.pick (FrD.pick (FrD.pick (FrD.pick (FrD.pick hf.none hf rfl) hf rfl) hf rfl) hf rfl) hf rfl) hf rfl), hs.sel [0, 1, 5] (by decide)⟩
              · rintro a w ⟨b96, hr_, hf, hs⟩
                subst hr_
                try dsimp only at hm
                refine wpL_cond hf rfl (fun hb103 => ?_) (fun hb103 => ?_)
                · have hm := bif_t hm hb103
                  refine wpL_seq ?_
                  refine wpL_region ?_
                  refine sY hf hs rfl rfl rfl (Y_assign rfl rfl) ?_; clear hf; intro a hf
                  refine wpO_nil ?_
                  obtain rfl := Option.some.inj hm
                  refine wpL_ret (ret_tmp rfl hf rfl ?_)
                  exact ⟨_, rfl, rfl, hs.sel [] (by decide)⟩
                · have hm := bif_f hm hb103
                  refine wpL_skip ?_
                  refine wpL_seq ?_
                  refine wpL_region ?_
                  refine sY hf hs rfl rfl rfl (Y_assign rfl rfl) ?_; clear hf; intro a hf
                  refine wpO_nil ?_
                  refine wpL_seq ?_
                  refine wpL_region ?_
                  refine sY hf hs rfl rfl rfl (Y_move rfl rfl) ?_; clear hf; intro a hf
                  refine sY hf hs rfl rfl rfl (Y_move rfl rfl) ?_; clear hf; intro a hf
                  obtain ⟨r104, hc105, hm⟩ := bind_some hm
                  refine sCall hf rfl rfl rfl rfl (cap := []) rfl rfl en36 (laws_markInt64SS_ok F r42.1 A44 n45 c46 hn47 vs48 1 _ _ hc105 (hs.res _ _ (show _[2]? = some _ from rfl))) ?_; clear hf
                  rintro _ w ⟨rfl, hn106, hs1⟩ a hf
                  have hs : St [] W w [.blk b1 35 [.int .i64 p0.Events, .slice A_p0_1 p0.Places.length c_p0_1], .mat A23 n24 c25 23 2 vs27 r21.1, .mat A44 n45 c46 23 2 vs48 r104.2] := hs.mut (i := 2) rfl (fun b hb => muM_mem.1 hb) hs1
                  clear hs1
                  refine sY hf hs rfl rfl rfl (Y_assign rfl rfl) ?_; clear hf; intro a hf
                  refine wpO_nil ?_
                  refine wpL_seq ?_
                  refine wpL_region ?_
                  refine sY hf hs rfl rfl rfl (Y_assign rfl rfl) ?_; clear hf; intro a hf
                  refine wpO_nil ?_
                  refine wpL_seq ?_
                  refine wpL_region ?_
                  refine sY hf hs rfl rfl rfl (Y_move rfl rfl) ?_; clear hf; intro a hf
                  refine sY hf hs rfl rfl rfl (Y_move rfl rfl) ?_; clear hf; intro a hf
                  obtain ⟨r107, hc108, hm⟩ := bind_some hm
                  refine sCall hf rfl rfl rfl rfl (cap := []) rfl rfl en37 (laws_heldInt64SS_ok F r104.2 A44 n45 c46 hn106 1 _ _ hc108 (hs.rdM (i := 2) rfl)) ?_; clear hf
                  rintro _ w ⟨rfl, hs1⟩ a hf
                  have hs : St [] W w [.blk b1 35 [.int .i64 p0.Events, .slice A_p0_1 p0.Places.length c_p0_1], .mat A23 n24 c25 23 2 vs27 r21.1, .mat A44 n45 c46 23 2 vs48 r104.2] := hs.ext hs1.below
                  clear hs1
                  refine sY hf hs rfl rfl rfl (Y_assign rfl rfl) ?_; clear hf; intro a hf
                  refine wpO_nil ?_
                  refine wpL_seq ?_
                  refine wpL_seq ?_
                  refine wpL_region ?_
                  refine sY hf hs rfl rfl rfl (Y_move rfl rfl) ?_; clear hf; intro a hf
                  refine sY hf hs rfl rfl rfl (Y_lss rfl rfl rfl) ?_; clear hf; intro a hf
                  refine wpO_nil ?_
                  refine wpL_cond hf rfl (fun hb109 => ?_) (fun hb109 => ?_)
                  · have hm := bif_t hm hb109
                    refine wpL_seq ?_
                    refine wpL_region ?_
                    refine sY hf hs rfl rfl rfl (Y_assign rfl rfl) ?_; clear hf; intro a hf
                    refine wpO_nil ?_
                    obtain rfl := Option.some.inj hm
                    refine wpL_ret (ret_tmp rfl hf rfl ?_)
                    exact ⟨_, rfl, rfl, hs.sel [] (by decide)⟩
                  · have hm := bif_f hm hb109
                    refine wpL_skip ?_
                    refine wpL_seq ?_
                    refine wpL_seq ?_
                    refine wpL_region ?_
                    refine sY hf hs rfl rfl rfl (Y_move rfl rfl) ?_; clear hf; intro a hf
                    refine sY hf hs rfl rfl rfl (Y_move rfl rfl) ?_; clear hf; intro a hf
                    refine sY hf hs rfl rfl rfl (Y_neq rfl rfl rfl) ?_; clear hf; intro a hf
                    refine wpO_nil ?_
                    refine wpL_cond hf rfl (fun hb110 => ?_) (fun hb110 => ?_)
                    · have hm := bif_t hm hb110
                      refine wpL_seq ?_
                      refine wpL_region ?_
                      refine sY hf hs rfl rfl rfl (Y_assign rfl rfl) ?_; clear hf; intro a hf
                      refine wpO_nil ?_
                      obtain rfl := Option.some.inj hm
                      refine wpL_ret (ret_tmp rfl hf rfl ?_)
                      exact ⟨_, rfl, rfl, hs.sel [] (by decide)⟩
                    · have hm := bif_f hm hb110
                      refine wpL_skip ?_
                      refine wpL_seq ?_
                      refine wpL_region ?_
                      refine sY hf hs rfl rfl rfl (Y_load_blkS rfl rfl (i := 0) rfl ag35 ti35 rfl) ?_; clear hf; intro a hf
                      obtain ⟨r111, hc112, hm⟩ := bind_some hm
                      refine sCall hf rfl rfl rfl rfl (cap := []) rfl rfl en26 (laws_toEventGraph_ok F p0 A_p0_1 p0.Places.length c_p0_1 rfl _ _ hc112 (h_p0_1.at hs)) ?_; clear hf
                      rintro _ w ⟨A113, n114, c115, rfl, hn116, hs1⟩ a hf
                      have hs : St [] W w [.blk b1 35 [.int .i64 p0.Events, .slice A_p0_1 p0.Places.length c_p0_1], .mat A23 n24 c25 23 2 vs27 r21.1, .mat A44 n45 c46 23 2 vs48 r104.2, .row A113 n114 c115 96 4 ((recs GPlace.cells) r111.Places)] := hs.join hs1
                      clear hs1
                      refine sY hf hs rfl rfl rfl (Y_move rfl rfl) ?_; clear hf; intro a hf
                      obtain ⟨r117, hc118, hm⟩ := bind_some hm
                      refine sCall hf rfl rfl rfl rfl (cap := []) rfl rfl en54 (laws_toInt64SS_ok F p1 A_p1_1 p1.length c_p1_1 rfl _ _ hc118 (h_p1_1.at hs)) ?_; clear hf
                      rintro _ w ⟨A119, n120, c121, vs123, rfl, hn122, hs1⟩ a hf
                      have hs : St [] W w [.blk b1 35 [.int .i64 p0.Events, .slice A_p0_1 p0.Places.length c_p0_1], .mat A23 n24 c25 23 2 vs27 r21.1, .mat A44 n45 c46 23 2 vs48 r104.2, .row A113 n114 c115 96 4 ((recs GPlace.cells) r111.Places), .mat A119 n120 c121 23 2 vs123 r117] := hs.join hs1
                      clear hs1
                      obtain ⟨r124, hc125, hm⟩ := bind_some hm
                      refine sCall hf rfl rfl rfl rfl (cap := []) rfl rfl en61 (impl_CriticalFirings_ok F r111 A113 n114 c115 hn116 r117 A119 n120 c121 hn122 _ _ hc125 (hs.rd (i := 3) rfl) (hs.rdM (i := 4) rfl)) ?_; clear hf
                      rintro _ w ⟨A126, n127, c128, vs130, rfl, hn129, hs1⟩ a hf
                      have hs : St [] W w [.blk b1 35 [.int .i64 p0.Events, .slice A_p0_1 p0.Places.length c_p0_1], .mat A23 n24 c25 23 2 vs27 r21.1, .mat A44 n45 c46 23 2 vs48 r104.2, .row A113 n114 c115 96 4 ((recs GPlace.cells) r111.Places), .mat A119 n120 c121 23 2 vs123 r117, .mat A126 n127 c128 23 2 vs130 r124.1] := hs.join hs1
                      clear hs1
                      refine sY hf hs rfl rfl rfl (Y_move rfl rfl) ?_; clear hf; intro a hf
                      refine sY hf hs rfl rfl rfl (Y_extract rfl rfl rfl) ?_; clear hf; intro a hf
                      refine sY hf hs rfl rfl rfl (Y_extract rfl rfl rfl) ?_; clear hf; intro a hf
                      refine sY hf hs rfl rfl rfl (Y_assign rfl rfl) ?_; clear hf; intro a hf
                      refine sY hf hs rfl rfl rfl (Y_assign rfl rfl) ?_; clear hf; intro a hf
                      refine wpO_nil ?_
                      refine wpL_seq ?_
                      refine wpL_seq ?_
                      obtain ⟨r135, hj136, hm⟩ := bind_some hm
                      refine wpL_cut (fun a w => ∃ b134 : Bool, b134 = r135 ∧ Fr a 119 [(10, .slice A44 n45 c46), (13, .int .i64 r104.1), (110, .bool b134)] ∧ St [] W w [.mat A44 n45 c46 23 2 vs48 r104.2]) ?_ ?_
                      · refine wpL_region ?_
                        refine sY hf hs rfl rfl rfl (Y_move rfl rfl) ?_; clear hf; intro a hf
                        refine sY hf hs rfl rfl rfl (Y_move rfl rfl) ?_; clear hf; intro a hf
                        obtain ⟨r137, hc138, hj136⟩ := bind_some hj136
                        refine sCall hf rfl rfl rfl rfl (cap := []) rfl rfl en35 (laws_eqInt64SS_ok F r124.1 A126 n127 c128 hn129 r21.1 A23 n24 c25 hn26 _ _ hc138 (hs.rdM (i := 5) rfl) (hs.rdM (i := 1) rfl)) ?_; clear hf
                        rintro _ w ⟨rfl, hs1⟩ a hf
                        have hs : St [] W w [.blk b1 35 [.int .i64 p0.Events, .slice A_p0_1 p0.Places.length c_p0_1], .mat A23 n24 c25 23 2 vs27 r21.1, .mat A44 n45 c46 23 2 vs48 r104.2, .row A113 n114 c115 96 4 ((recs GPlace.cells) r111.Places), .mat A119 n120 c121 23 2 vs123 r117, .mat A126 n127 c128 23 2 vs130 r124.1] := hs.ext hs1.below
                        clear hs1
                        refine sY hf hs rfl rfl rfl (Y_not rfl rfl) ?_; clear hf; intro a hf
                        refine sY hf hs rfl rfl rfl (Y_move rfl rfl) ?_; clear hf; intro a hf
                        refine bsplit (!r137) (fun hb139 => ?_) (fun hb139 => ?_)
                        · have hj136 := bif_t hj136 hb139
                          refine sNo hf rfl rfl rfl (congrArg (fun b => some (Value.bool b)) hb139) rfl rfl rfl ?_; clear hf; intro a hf
                          refine sNo hf rfl rfl rfl (congrArg (fun b => some (Value.bool b)) hb139) rfl rfl rfl ?_; clear hf; intro a hf
                          refine sNo hf rfl rfl rfl (congrArg (fun b => some (Value.bool b)) hb139) rfl rfl rfl ?_; clear hf; intro a hf
                          refine sY hf hs rfl rfl rfl (Y_pickT rfl (congrArg (fun b => some (Value.bool b)) hb139) rfl) ?_; clear hf; intro a hf
                          refine wpO_nil ?_
                          refine wpL_nil (then_normal ?_)
                          exact ⟨true, Option.some.inj hj136, (FrD.pick (FrD.pick (FrD.pick hf.none hf rfl) hf rfl) hf rfl), hs.sel [2] (by decide)⟩
                        · have hj136 := bif_f hj136 hb139
                          refine sYg hf hs rfl rfl rfl (congrArg (fun b => some (Value.bool b)) hb139) rfl rfl rfl (Y_move rfl rfl) ?_; clear hf; intro a hf
                          refine sYg hf hs rfl rfl rfl (congrArg (fun b => some (Value.bool b)) hb139) rfl rfl rfl (Y_move rfl rfl) ?_; clear hf; intro a hf
                          refine sYg hf hs rfl rfl rfl (congrArg (fun b => some (Value.bool b)) hb139) rfl rfl rfl (Y_neq rfl rfl rfl) ?_; clear hf; intro a hf
                          refine sY hf hs rfl rfl rfl (Y_pickF rfl (congrArg (fun b => some (Value.bool b)) hb139) rfl) ?_; clear hf; intro a hf
                          refine wpO_nil ?_
                          refine wpL_nil (then_normal ?_)
                          exact ⟨(r124.2 != r21.2), Option.some.inj hj136, (FrD.pick (FrD.pick (FrD.pick hf.none hf rfl) hf rfl) hf rfl), hs.sel [2] (by decide)⟩
                      · rintro a w ⟨b134, hr_, hf, hs⟩
                        subst hr_
                        try dsimp only at hm
                        refine wpL_cond hf rfl (fun hb140 => ?_) (fun hb140 => ?_)
                        · have hm := bif_t hm hb140
                          refine wpL_seq ?_
                          refine wpL_region ?_
                          refine sY hf hs rfl rfl rfl (Y_assign rfl rfl) ?_; clear hf; intro a hf
                          refine wpO_nil ?_
                          obtain rfl := Option.some.inj hm
                          refine wpL_ret (ret_tmp rfl hf rfl ?_)
                          exact ⟨_, rfl, rfl, hs.sel [] (by decide)⟩
                        · have hm := bif_f hm hb140
                          refine wpL_skip ?_
                          refine wpL_seq ?_
                          refine wpL_region ?_
                          refine sY hf hs rfl rfl rfl (Y_assign rfl rfl) ?_; clear hf; intro a hf
                          refine wpO_nil ?_
                          refine wpL_seq ?_
                          refine wpL_region ?_
                          refine sY hf hs rfl rfl rfl (Y_move rfl rfl) ?_; clear hf; intro a hf
                          refine sY hf hs rfl rfl rfl (Y_move rfl rfl) ?_; clear hf; intro a hf
                          obtain ⟨r141, hc142, hm⟩ := bind_some hm
                          refine sCall hf rfl rfl rfl rfl (cap := []) rfl rfl en37 (laws_heldInt64SS_ok F r104.2 A44 n45 c46 hn106 1 _ _ hc142 (hs.rdM (i := 0) rfl)) ?_; clear hf
                          rintro _ w ⟨rfl, hs1⟩ a hf
                          have hs : St [] W w [.mat A44 n45 c46 23 2 vs48 r104.2] := hs.ext hs1.below
                          clear hs1
                          refine sY hf hs rfl rfl rfl (Y_assign rfl rfl) ?_; clear hf; intro a hf
                          refine wpO_nil ?_
                          refine wpL_seq ?_
                          refine wpL_seq ?_
                          refine wpL_region ?_
                          refine sY hf hs rfl rfl rfl (Y_move rfl rfl) ?_; clear hf; intro a hf
                          refine sY hf hs rfl rfl rfl (Y_lss rfl rfl rfl) ?_; clear hf; intro a hf
                          refine wpO_nil ?_
                          refine wpL_cond hf rfl (fun hb143 => ?_) (fun hb143 => ?_)
                          · have hm := bif_t hm hb143
                            refine wpL_seq ?_
                            refine wpL_region ?_
                            refine sY hf hs rfl rfl rfl (Y_assign rfl rfl) ?_; clear hf; intro a hf
                            refine wpO_nil ?_
                            obtain rfl := Option.some.inj hm
                            refine wpL_ret (ret_tmp rfl hf rfl ?_)
                            exact ⟨_, rfl, rfl, hs.sel [] (by decide)⟩
                          · have hm := bif_f hm hb143
                            refine wpL_skip ?_
                            refine wpL_seq ?_
                            refine wpL_seq ?_
                            refine wpL_region ?_
                            refine sY hf hs rfl rfl rfl (Y_move rfl rfl) ?_; clear hf; intro a hf
                            refine sY hf hs rfl rfl rfl (Y_move rfl rfl) ?_; clear hf; intro a hf
                            refine sY hf hs rfl rfl rfl (Y_neq rfl rfl rfl) ?_; clear hf; intro a hf
                            refine wpO_nil ?_
                            refine wpL_cond hf rfl (fun hb144 => ?_) (fun hb144 => ?_)
                            · have hm := bif_t hm hb144
                              refine wpL_seq ?_
                              refine wpL_region ?_
                              refine sY hf hs rfl rfl rfl (Y_assign rfl rfl) ?_; clear hf; intro a hf
                              refine wpO_nil ?_
                              obtain rfl := Option.some.inj hm
                              refine wpL_ret (ret_tmp rfl hf rfl ?_)
                              exact ⟨_, rfl, rfl, hs.sel [] (by decide)⟩
                            · have hm := bif_f hm hb144
                              refine wpL_skip ?_
                              refine wpL_seq ?_
                              refine wpL_region ?_
                              refine sY hf hs rfl rfl rfl (Y_assign rfl rfl) ?_; clear hf; intro a hf
                              refine wpO_nil ?_
                              obtain rfl := Option.some.inj hm
                              refine wpL_ret (ret_tmp rfl hf rfl ?_)
                              exact ⟨_, rfl, rfl, hs.sel [] (by decide)⟩

end Go.Proofs.Ytpmebacdmilecaa
