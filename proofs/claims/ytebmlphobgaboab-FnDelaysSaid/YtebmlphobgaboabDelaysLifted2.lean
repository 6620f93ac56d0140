/- The functions do what their models say. -/
import Derived.Test.YtebmlphobgaboabDelaysLifted1
import Derived.Test.YtebmlphobgaboabRows
namespace Go.Proofs.Ytebmlphobgaboab
open Go.RowKit

set_option maxRecDepth 100000 in
theorem spec_l15Visits_ok (F : Nat) (ah : GEventGraph) (ag : Option Addr) (ax ai : Nat) (aB : ax = ah.Places.length) (bC : List Int) (bA : Option Addr) (bP bQ : Nat) (ce : bP = bC.length) (cj : Int) (r : Bool) (W : World) (hm : spec_l15Visits F ah bC cj = some r) (ay : Rd W ag ((recs GPlace.cells) ah.Places)) (bx : Rd W bA (ints bC)) :
  Calls Try.prog 225 [.agg #[.int .i64 ah.Events, .slice ag ax ai], .slice bA bP bQ, .int .i64 cj].toArray W fun e w' => ∃ v, e = .returned v ∧ v = .bool r ∧ St [] W w' [] := by
 subst aB
 subst ce
 unfold spec_l15Visits at hm
 refine Calls.enter (N := 38) Try.func225 rfl rfl rfl (fun a hf => ?_)
 have hs := St.start W
 obtain ⟨w, hw_⟩ : ∃ w, w = W := ⟨W, rfl⟩
 clear hw_ w
 refine wpL_seq <| wpL_region ?_
 refine sBox hf hs rfl rfl rfl rfl rfl (cs := [.int .i64 ah.Events, .slice ag ah.Places.length ai]) rfl ?_; clear hf hs; intro a w b1 hs hf
 have hs : St _ W w [.blk b1 55 [.int .i64 ah.Events, .slice ag ah.Places.length ai]] := hs
 refine sY hf hs rfl rfl rfl (Y_assign rfl rfl) ?_; clear hf; intro a hf
 refine wpO_nil <| wpL_seq <| wpL_seq <| wpL_region ?_
 refine sY hf hs rfl rfl rfl (Y_assign rfl rfl) ?_; clear hf; intro a hf
 refine wpO_nil ?_
 obtain ⟨r73, hl74, hm⟩ := bind_some hm
 refine wpL_block (fun a w => Sum.inr () = r73 ∧ Fr a 38 [] ∧ St [] W w []) ?_ ?_
 ·refine wpL_loop (fun n a w => ∃ x49 : Int, spec_l15Visits_L1 F ah bC cj n x49 = some r73 ∧ Fr a 38 [(1, .slice bA bC.length bQ), (2, .int .i64 cj), (3, .pointer (some ⟨b1, 0, none⟩)), (7, .int .i64 x49)] ∧ St [] W w [.blk b1 55 [.int .i64 ah.Events, .slice ag ah.Places.length ai]]) F ?_ ?_ ?_
  ·exact ⟨0, hl74, (FrD.pick (FrD.pick (FrD.pick (FrD.pick hf.none hf rfl) hf rfl) hf rfl) hf rfl), hs⟩
  ·rintro a w ⟨x49, h0_, -, -⟩; simp [spec_l15Visits_L1] at h0_
  ·rintro n76 a w ⟨x49, hm75, hf, hs⟩
   rw [spec_l15Visits_L1] at hm75
   refine wpL_seq <| wpL_seq <| wpL_region ?_
   refine sY hf hs rfl rfl rfl (Y_move rfl rfl) ?_; clear hf; intro a hf
   refine sY hf hs rfl rfl rfl (Y_move rfl rfl) ?_; clear hf; intro a hf
   refine sY hf hs rfl rfl rfl (Y_lenH rfl rfl el28 rfl) ?_; clear hf; intro a hf
   refine sY hf hs rfl rfl rfl (Y_lss rfl rfl rfl) ?_; clear hf; intro a hf
   refine wpO_nil ?_
   refine wpL_cond hf rfl (fun hb77 => ?_) (fun hb77 => ?_)
   ·have hm75 := bif_t hm75 hb77
    refine wpL_skip <| wpL_seq <| wpL_block0 <| wpL_seq ?_
    obtain ⟨r88, hj89, hm75⟩ := bind_some hm75
    refine wpL_cut (fun a w => ∃ b87 : Bool, b87 = r88 ∧ Fr a 38 [(1, .slice bA bC.length bQ), (2, .int .i64 cj), (3, .pointer (some ⟨b1, 0, none⟩)), (7, .int .i64 x49), (37, .bool b87)] ∧ St [] W w [.blk b1 55 [.int .i64 ah.Events, .slice ag ah.Places.length ai]]) ?_ ?_
    ·refine wpL_draw (by kernel_rfl) (by kernel_rfl) hs ?_
     refine qY hf rfl rfl rfl (Y_fieldAddr rfl rfl fo55_1) ?_; clear hf; intro a hf
     refine qY hf rfl rfl rfl (Y_load_blk rfl rfl (i := 0) rfl rfl ag53) ?_; clear hf; intro a hf
     refine qY hf rfl rfl rfl (Y_move rfl rfl) ?_; clear hf; intro a hf
     refine qY hf rfl rfl rfl (Y_move rfl rfl) ?_; clear hf; intro a hf
     obtain ⟨q90, hi91, hj89⟩ := bind_some hj89
     obtain ⟨hi91a, hi91b, hi91q⟩ := idx_some hi91
     refine qY hf rfl rfl rfl (Y_index rfl rfl rfl el28 ti2 (Rd.isAt (bx.at hs) (at1 (ints_at hi91q))) hi91a hi91b) ?_; clear hf; intro a hf
     refine qY hf rfl rfl rfl (Y_load_rd rfl rfl (fun w hs => bx.at hs) (at1 (ints_at hi91q)) ag2) ?_; clear hf; intro a hf
     obtain ⟨q92, hi93, hj89⟩ := bind_some hj89
     obtain ⟨hi93a, hi93b, hi93q⟩ := idx_some hi93
     refine qY hf rfl rfl rfl (Y_index rfl rfl rfl el53 ti64 (Rd.isAt (ay.at hs) (recs_at (s := 4) GPlace.len hi93q (j := 0) rfl)) hi93a hi93b) ?_; clear hf; intro a hf
     refine qY hf rfl rfl rfl (Y_fieldAddrE rfl rfl fo64_0) ?_; clear hf; intro a hf
     refine qY hf rfl rfl rfl (Y_load_rd rfl rfl (fun w hs => ay.at hs) (recs_at (s := 4) GPlace.len hi93q (j := 0) rfl) ag2) ?_; clear hf; intro a hf
     refine qY hf rfl rfl rfl (Y_move rfl rfl) ?_; clear hf; intro a hf
     refine qY hf rfl rfl rfl (Y_eql rfl rfl rfl) ?_; clear hf; intro a hf
     refine qY hf rfl rfl rfl (Y_move rfl rfl) ?_; clear hf; intro a hf
     refine bsplit (q92.From == cj) (fun hb94 => ?_) (fun hb94 => ?_)
     ·have hj89 := bif_t hj89 hb94
      refine qNo hf rfl rfl rfl (congrArg (fun b => some (Value.bool b)) hb94) rfl rfl rfl ?_; clear hf; intro a hf
      refine qNo hf rfl rfl rfl (congrArg (fun b => some (Value.bool b)) hb94) rfl rfl rfl ?_; clear hf; intro a hf
      refine qNo hf rfl rfl rfl (congrArg (fun b => some (Value.bool b)) hb94) rfl rfl rfl ?_; clear hf; intro a hf
      refine qNo hf rfl rfl rfl (congrArg (fun b => some (Value.bool b)) hb94) rfl rfl rfl ?_; clear hf; intro a hf
      refine qNo hf rfl rfl rfl (congrArg (fun b => some (Value.bool b)) hb94) rfl rfl rfl ?_; clear hf; intro a hf
      refine qNo hf rfl rfl rfl (congrArg (fun b => some (Value.bool b)) hb94) rfl rfl rfl ?_; clear hf; intro a hf
      refine qNo hf rfl rfl rfl (congrArg (fun b => some (Value.bool b)) hb94) rfl rfl rfl ?_; clear hf; intro a hf
      refine qNo hf rfl rfl rfl (congrArg (fun b => some (Value.bool b)) hb94) rfl rfl rfl ?_; clear hf; intro a hf
      refine qNo hf rfl rfl rfl (congrArg (fun b => some (Value.bool b)) hb94) rfl rfl rfl ?_; clear hf; intro a hf
      refine qNo hf rfl rfl rfl (congrArg (fun b => some (Value.bool b)) hb94) rfl rfl rfl ?_; clear hf; intro a hf
      refine qNo hf rfl rfl rfl (congrArg (fun b => some (Value.bool b)) hb94) rfl rfl rfl ?_; clear hf; intro a hf
      refine qY hf rfl rfl rfl (Y_pickT rfl (congrArg (fun b => some (Value.bool b)) hb94) rfl) ?_; clear hf; intro a hf
      refine qNil ?_; clear hs; intro w hs
      refine wpL_nil (then_normal ?_)
      exact ⟨true, Option.some.inj hj89, (FrD.pick (FrD.pick (FrD.pick (FrD.pick (FrD.pick hf.none hf rfl) hf rfl) hf rfl) hf rfl) hf rfl), hs⟩
     ·have hj89 := bif_f hj89 hb94
      refine qYg hf rfl rfl rfl (congrArg (fun b => some (Value.bool b)) hb94) rfl rfl rfl (Y_fieldAddr rfl rfl fo55_1) ?_; clear hf; intro a hf
      refine qYg hf rfl rfl rfl (congrArg (fun b => some (Value.bool b)) hb94) rfl rfl rfl (Y_load_blk rfl rfl (i := 0) rfl rfl ag53) ?_; clear hf; intro a hf
      refine qYg hf rfl rfl rfl (congrArg (fun b => some (Value.bool b)) hb94) rfl rfl rfl (Y_move rfl rfl) ?_; clear hf; intro a hf
      refine qYg hf rfl rfl rfl (congrArg (fun b => some (Value.bool b)) hb94) rfl rfl rfl (Y_move rfl rfl) ?_; clear hf; intro a hf
      obtain ⟨q95, hi96, hj89⟩ := bind_some hj89
      obtain ⟨hi96a, hi96b, hi96q⟩ := idx_some hi96
      refine qYg hf rfl rfl rfl (congrArg (fun b => some (Value.bool b)) hb94) rfl rfl rfl (Y_index rfl rfl rfl el28 ti2 (Rd.isAt (bx.at hs) (at1 (ints_at hi96q))) hi96a hi96b) ?_; clear hf; intro a hf
      refine qYg hf rfl rfl rfl (congrArg (fun b => some (Value.bool b)) hb94) rfl rfl rfl (Y_load_rd rfl rfl (fun w hs => bx.at hs) (at1 (ints_at hi96q)) ag2) ?_; clear hf; intro a hf
      obtain ⟨q97, hi98, hj89⟩ := bind_some hj89
      obtain ⟨hi98a, hi98b, hi98q⟩ := idx_some hi98
      refine qYg hf rfl rfl rfl (congrArg (fun b => some (Value.bool b)) hb94) rfl rfl rfl (Y_index rfl rfl rfl el53 ti64 (Rd.isAt (ay.at hs) (recs_at (s := 4) GPlace.len hi98q (j := 0) rfl)) hi98a hi98b) ?_; clear hf; intro a hf
      refine qYg hf rfl rfl rfl (congrArg (fun b => some (Value.bool b)) hb94) rfl rfl rfl (Y_fieldAddrE rfl rfl fo64_1) ?_; clear hf; intro a hf
      refine qYg hf rfl rfl rfl (congrArg (fun b => some (Value.bool b)) hb94) rfl rfl rfl (Y_load_rd rfl rfl (fun w hs => ay.at hs) (recs_at (s := 4) GPlace.len hi98q (j := 1) rfl) ag2) ?_; clear hf; intro a hf
      refine qYg hf rfl rfl rfl (congrArg (fun b => some (Value.bool b)) hb94) rfl rfl rfl (Y_move rfl rfl) ?_; clear hf; intro a hf
      refine qYg hf rfl rfl rfl (congrArg (fun b => some (Value.bool b)) hb94) rfl rfl rfl (Y_eql rfl rfl rfl) ?_; clear hf; intro a hf
      refine qY hf rfl rfl rfl (Y_pickF rfl (congrArg (fun b => some (Value.bool b)) hb94) rfl) ?_; clear hf; intro a hf
      refine qNil ?_; clear hs; intro w hs
      refine wpL_nil (then_normal ?_)
      exact ⟨(q97.To == cj), Option.some.inj hj89, (FrD.pick (FrD.pick (FrD.pick (FrD.pick (FrD.pick hf.none hf rfl) hf rfl) hf rfl) hf rfl) hf rfl), hs⟩
    ·rintro a w ⟨b87, hr_, hf, hs⟩
     subst hr_
     try dsimp only at hm75
     refine wpL_cond hf rfl (fun hb99 => ?_) (fun hb99 => ?_)
     ·have hm75 := bif_t hm75 hb99
      refine wpL_seq <| wpL_region ?_
      refine sY hf hs rfl rfl rfl (Y_assign rfl rfl) ?_; clear hf; intro a hf
      refine wpO_nil ?_
      obtain rfl := Option.some.inj hm75
      try dsimp only at hm
      obtain rfl := Option.some.inj hm
      refine wpL_ret (Qb_ret (Ql_ret (Qb_ret (ret_tmp rfl hf rfl ?_))))
      exact ⟨_, rfl, rfl, hs.sel [] (by decide)⟩
     ·have hm75 := bif_f hm75 hb99
      refine wpL_skip ?_
      refine wpL_nil (Qb_normal ?_)
      refine wpL_region ?_
      refine sY hf hs rfl rfl rfl (Y_move rfl rfl) ?_; clear hf; intro a hf
      refine sY hf hs rfl rfl rfl (Y_add rfl rfl rfl) ?_; clear hf; intro a hf
      refine sY hf hs rfl rfl rfl (Y_assign rfl rfl) ?_; clear hf; intro a hf
      refine wpO_nil ?_
      refine wpL_nil (Ql_normal ?_)
      exact ⟨(IntKind.i64.wrap (x49 + 1)), hm75, (FrD.pick (FrD.pick (FrD.pick (FrD.pick hf.none hf rfl) hf rfl) hf rfl) hf rfl), hs⟩
   ·have hm75 := bif_f hm75 hb77
    refine wpL_exit (Ql_exit (Qb_exit ?_))
    exact ⟨Option.some.inj hm75, hf.none, hs.sel [] (by decide)⟩
 ·rintro a w ⟨hr_, hf, hs⟩
  subst hr_
  try dsimp only at hm
  refine wpL_seq <| wpL_region ?_
  refine sY hf hs rfl rfl rfl (Y_assign rfl rfl) ?_; clear hf; intro a hf
  refine wpO_nil ?_
  obtain rfl := Option.some.inj hm
  refine wpL_ret (ret_tmp rfl hf rfl ?_)
  exact ⟨_, rfl, rfl, hs⟩

set_option maxRecDepth 100000 in
theorem spec_l01Own_ok (F : Nat) (aW : List Int) (aV : Option Addr) (bn bo : Nat) (bG : bn = aW.length) (r : List Int) (W : World) (hm : spec_l01Own F aW = some r) (br : Rd W aV (ints aW)) :
  Calls Try.prog 114 [.slice aV bn bo].toArray W fun e w' => ∃ v, e = .returned v ∧ ∃ A7, ∃ n8, ∃ c9, v = .slice A7 n8 c9 ∧ n8 = r.length ∧ St [] W w' [.row A7 n8 c9 2 1 (ints r)] := by
 subst bG
 unfold spec_l01Own at hm
 refine Calls.enter (N := 6) Try.func114 rfl rfl rfl (fun a hf => ?_)
 have hs := St.start W
 obtain ⟨w, hw_⟩ : ∃ w, w = W := ⟨W, rfl⟩
 clear hw_ w
 refine wpL_seq <| wpL_region ?_
 refine sY hf hs rfl rfl rfl (Y_assign rfl rfl) ?_; clear hf; intro a hf
 refine wpO_nil <| wpL_seq <| wpL_region ?_
 refine sEmpty hf hs rfl rfl rfl rfl el28 ti2 ?_; clear hf hs; intro a w A1 hs hf
 have hs : St _ W w [.row A1 0 0 2 1 (ints ([] : List Int))] := hs
 refine sY hf hs rfl rfl rfl (Y_move rfl rfl) ?_; clear hf; intro a hf
 obtain ⟨xs5, ha6, hm⟩ := bind_some hm
 refine sAppendG (i := 0) (xs := ([] : List Int)) (ys := aW) (enc := ints) hf hs rfl rfl rfl rfl rfl rfl rfl rfl rfl ha6 el28 ti2 rfl rfl rfl (br.at hs) ints_len1 ints_append ints_one ?_; clear hf hs; intro a w A3 c4 hs hf
 have hs : St _ W w [.row A3 xs5.length c4 2 1 (ints xs5)] := hs
 refine sY hf hs rfl rfl rfl (Y_assign rfl rfl) ?_; clear hf; intro a hf
 refine wpO_nil ?_
 obtain rfl := Option.some.inj hm
 refine wpL_ret (ret_tmp rfl hf rfl ?_)
 exact ⟨_, rfl, A3, xs5.length, c4, rfl, rfl, hs⟩

set_option maxHeartbeats 2000000 in
set_option maxRecDepth 100000 in
theorem spec_l15Grow_step (F k_ : Nat) (ih_ : ∀ (p0 : GEventGraph) (au : Option Addr) (aX aw : Nat) (_hn_p0_1 : aX = p0.Places.length) (p1 : List Int) (aA : Option Addr) (aS aC : Nat) (_hn_p1_1 : aS = p1.length) (p2 : GRatio) (p3 : Int) (r : List Int) (W : World) (_hm : spec_l15Grow_rec F k_ p0 p1 p2 p3 = some r) (_h_p0_1 : Rd W au ((recs GPlace.cells) p0.Places)) (_h_p1_1 : Rd W aA (ints p1)), Calls Try.prog 223 [.agg #[.int .i64 p0.Events, .slice au aX aw], .slice aA aS aC, .agg #[.int .i64 p2.Num, .int .i64 p2.Den], .int .i64 p3].toArray W fun e w' => ∃ v, e = .returned v ∧ ∃ A1340, ∃ n1341, ∃ c1342, ∃ A1343, ∃ n1344, ∃ c1345, ∃ ys1346, v = .slice A1340 n1341 c1342 ∧ n1341 = r.length ∧ Ei aA aS aC p1 A1343 n1344 c1345 ys1346 A1340 n1341 c1342 r ∧ St [] W w' [.row A1343 n1344 c1345 2 1 (ints ys1346)]) (p0 : GEventGraph) (au : Option Addr) (aX aw : Nat) (bY : aX = p0.Places.length) (p1 : List Int) (aA : Option Addr) (aS aC : Nat) (cg : aS = p1.length) (p2 : GRatio) (p3 : Int) (r : List Int) (W : World) (hm : spec_l15Grow_rec F (k_ + 1) p0 p1 p2 p3 = some r) (aZ : Rd W au ((recs GPlace.cells) p0.Places)) (bk : Rd W aA (ints p1)) :
  Calls Try.prog 223 [.agg #[.int .i64 p0.Events, .slice au aX aw], .slice aA aS aC, .agg #[.int .i64 p2.Num, .int .i64 p2.Den], .int .i64 p3].toArray W fun e w' => ∃ v, e = .returned v ∧ ∃ A1340, ∃ n1341, ∃ c1342, ∃ A1343, ∃ n1344, ∃ c1345, ∃ ys1346, v = .slice A1340 n1341 c1342 ∧ n1341 = r.length ∧ Ei aA aS aC p1 A1343 n1344 c1345 ys1346 A1340 n1341 c1342 r ∧ St [] W w' [.row A1343 n1344 c1345 2 1 (ints ys1346)] := by
 subst bY
 subst cg
 unfold spec_l15Grow_rec at hm
 refine Calls.enter (N := 104) Try.func223 rfl rfl rfl (fun a hf => ?_)
 have hs := St.start W
 obtain ⟨w, hw_⟩ : ∃ w, w = W := ⟨W, rfl⟩
 clear hw_ w
 refine wpL_seq <| wpL_region ?_
 refine sBox hf hs rfl rfl rfl rfl rfl (cs := [.int .i64 p0.Events, .slice au p0.Places.length aw]) rfl ?_; clear hf hs; intro a w b1 hs hf
 have hs : St _ W w [.blk b1 55 [.int .i64 p0.Events, .slice au p0.Places.length aw]] := hs
 refine sBox hf hs rfl rfl rfl rfl rfl (cs := [.int .i64 p2.Num, .int .i64 p2.Den]) rfl ?_; clear hf hs; intro a w b2 hs hf
 have hs : St _ W w [_, .blk b2 129 [.int .i64 p2.Num, .int .i64 p2.Den]] := hs
 refine sY hf hs rfl rfl rfl (Y_assign rfl rfl) ?_; clear hf; intro a hf
 refine wpO_nil <| wpL_seq ?_
 refine wpL_draw (by kernel_rfl) (by kernel_rfl) hs ?_
 refine qY hf rfl rfl rfl (Y_fieldAddr rfl rfl fo55_1) ?_; clear hf; intro a hf
 refine qY hf rfl rfl rfl (Y_load_blk rfl rfl (i := 0) rfl rfl ag53) ?_; clear hf; intro a hf
 refine qY hf rfl rfl rfl (Y_move rfl rfl) ?_; clear hf; intro a hf
 obtain ⟨q3, hi4, hm⟩ := bind_some hm
 obtain ⟨hi4a, hi4b, hi4q⟩ := idx_some hi4
 refine qY hf rfl rfl rfl (Y_index rfl rfl rfl el28 ti2 (Rd.isAt (bk.at hs) (at1 (ints_at hi4q))) hi4a hi4b) ?_; clear hf; intro a hf
 refine qY hf rfl rfl rfl (Y_load_rd rfl rfl (fun w hs => bk.at hs) (at1 (ints_at hi4q)) ag2) ?_; clear hf; intro a hf
 obtain ⟨q5, hi6, hm⟩ := bind_some hm
 obtain ⟨hi6a, hi6b, hi6q⟩ := idx_some hi6
 refine qY hf rfl rfl rfl (Y_index rfl rfl rfl el53 ti64 (Rd.isAt (aZ.at hs) (recs_at (s := 4) GPlace.len hi6q (j := 0) rfl)) hi6a hi6b) ?_; clear hf; intro a hf
 refine qY hf rfl rfl rfl (Y_fieldAddrE rfl rfl fo64_0) ?_; clear hf; intro a hf
 refine qY hf rfl rfl rfl (Y_load_rd rfl rfl (fun w hs => aZ.at hs) (recs_at (s := 4) GPlace.len hi6q (j := 0) rfl) ag2) ?_; clear hf; intro a hf
 refine qY hf rfl rfl rfl (Y_fieldAddr rfl rfl fo55_1) ?_; clear hf; intro a hf
 refine qY hf rfl rfl rfl (Y_load_blk rfl rfl (i := 0) rfl rfl ag53) ?_; clear hf; intro a hf
 refine qY hf rfl rfl rfl (Y_move rfl rfl) ?_; clear hf; intro a hf
 refine qY hf rfl rfl rfl (Y_move rfl rfl) ?_; clear hf; intro a hf
 refine qY hf rfl rfl rfl (Y_lenH rfl rfl el28 rfl) ?_; clear hf; intro a hf
 refine qY hf rfl rfl rfl (Y_sub rfl rfl rfl) ?_; clear hf; intro a hf
 obtain ⟨q7, hi8, hm⟩ := bind_some hm
 obtain ⟨hi8a, hi8b, hi8q⟩ := idx_some hi8
 refine qY hf rfl rfl rfl (Y_index rfl rfl rfl el28 ti2 (Rd.isAt (bk.at hs) (at1 (ints_at hi8q))) hi8a hi8b) ?_; clear hf; intro a hf
 refine qY hf rfl rfl rfl (Y_load_rd rfl rfl (fun w hs => bk.at hs) (at1 (ints_at hi8q)) ag2) ?_; clear hf; intro a hf
 obtain ⟨q9, hi10, hm⟩ := bind_some hm
 obtain ⟨hi10a, hi10b, hi10q⟩ := idx_some hi10
 refine qY hf rfl rfl rfl (Y_index rfl rfl rfl el53 ti64 (Rd.isAt (aZ.at hs) (recs_at (s := 4) GPlace.len hi10q (j := 0) rfl)) hi10a hi10b) ?_; clear hf; intro a hf
 refine qY hf rfl rfl rfl (Y_fieldAddrE rfl rfl fo64_1) ?_; clear hf; intro a hf
 refine qY hf rfl rfl rfl (Y_load_rd rfl rfl (fun w hs => aZ.at hs) (recs_at (s := 4) GPlace.len hi10q (j := 1) rfl) ag2) ?_; clear hf; intro a hf
 refine qY hf rfl rfl rfl (Y_assign rfl rfl) ?_; clear hf; intro a hf
 refine qY hf rfl rfl rfl (Y_assign rfl rfl) ?_; clear hf; intro a hf
 refine qNil ?_; clear hs; intro w hs
 refine wpL_seq <| wpL_seq <| wpL_region ?_
 refine sY hf hs rfl rfl rfl (Y_move rfl rfl) ?_; clear hf; intro a hf
 refine sY hf hs rfl rfl rfl (Y_move rfl rfl) ?_; clear hf; intro a hf
 refine sY hf hs rfl rfl rfl (Y_eql rfl rfl rfl) ?_; clear hf; intro a hf
 refine wpO_nil ?_
 refine wpL_cond hf rfl (fun hb11 => ?_) (fun hb11 => ?_)
 ·have hm := bif_t hm hb11
  refine wpL_seq <| wpL_region ?_
  refine sY hf hs rfl rfl rfl (Y_load_blkS rfl rfl (i := 0) rfl ag55 ti55 rfl) ?_; clear hf; intro a hf
  refine sY hf hs rfl rfl rfl (Y_move rfl rfl) ?_; clear hf; intro a hf
  obtain ⟨r12, hc13, hm⟩ := bind_some hm
  refine sCall hf rfl rfl rfl rfl (cap := []) rfl rfl en215 (spec_l15Sums_ok F p0 au p0.Places.length aw rfl p1 aA p1.length aC rfl _ _ hc13 (aZ.at hs) (bk.at hs)) ?_; clear hf
  rintro _ w ⟨rfl, hs1⟩ a hf
  have hs : St _ W w [_, _] := hs.ext hs1.below
  clear hs1
  refine sY hf hs rfl rfl rfl (Y_move rfl rfl) ?_; clear hf; intro a hf
  refine sY hf hs rfl rfl rfl (Y_extract rfl rfl rfl) ?_; clear hf; intro a hf
  refine sY hf hs rfl rfl rfl (Y_extract rfl rfl rfl) ?_; clear hf; intro a hf
  refine sY hf hs rfl rfl rfl (Y_assign rfl rfl) ?_; clear hf; intro a hf
  refine sY hf hs rfl rfl rfl (Y_assign rfl rfl) ?_; clear hf; intro a hf
  refine wpO_nil <| wpL_seq <| wpL_seq <| wpL_region ?_
  refine sY hf hs rfl rfl rfl (Y_fieldAddr rfl rfl fo129_1) ?_; clear hf; intro a hf
  refine sY hf hs rfl rfl rfl (Y_load_blk rfl rfl (i := 1) rfl rfl ag2) ?_; clear hf; intro a hf
  refine sY hf hs rfl rfl rfl (Y_move rfl rfl) ?_; clear hf; intro a hf
  refine sY hf hs rfl rfl rfl (Y_mul rfl rfl rfl) ?_; clear hf; intro a hf
  refine sY hf hs rfl rfl rfl (Y_fieldAddr rfl rfl fo129_0) ?_; clear hf; intro a hf
  refine sY hf hs rfl rfl rfl (Y_load_blk rfl rfl (i := 1) rfl rfl ag2) ?_; clear hf; intro a hf
  refine sY hf hs rfl rfl rfl (Y_move rfl rfl) ?_; clear hf; intro a hf
  refine sY hf hs rfl rfl rfl (Y_mul rfl rfl rfl) ?_; clear hf; intro a hf
  refine sY hf hs rfl rfl rfl (Y_sub rfl rfl rfl) ?_; clear hf; intro a hf
  refine sY hf hs rfl rfl rfl (Y_move rfl rfl) ?_; clear hf; intro a hf
  refine sY hf hs rfl rfl rfl (Y_gtr rfl rfl rfl) ?_; clear hf; intro a hf
  refine wpO_nil ?_
  refine wpL_cond hf rfl (fun hb14 => ?_) (fun hb14 => ?_)
  ·have hm := bif_t hm hb14
   refine wpL_seq <| wpL_region ?_
   refine sY hf hs rfl rfl rfl (Y_move rfl rfl) ?_; clear hf; intro a hf
   refine sY hf hs rfl rfl rfl (Y_assign rfl rfl) ?_; clear hf; intro a hf
   refine wpO_nil ?_
   have hs : St [] W _ [.blk b1 55 [.int .i64 p0.Events, .slice au p0.Places.length aw], .blk b2 129 [.int .i64 p2.Num, .int .i64 p2.Den], .row none 0 0 2 1 (ints ([] : List Int))] := hs.addNil 2 1
   obtain rfl := Option.some.inj hm
   refine wpL_ret (ret_tmp rfl hf rfl ?_)
   exact ⟨_, rfl, aA, p1.length, aC, none, 0, 0, ([] : List Int), rfl, rfl, .inl ⟨rfl, rfl, rfl, rfl⟩, hs.sel [2] (by decide)⟩
  ·have hm := bif_f hm hb14
   refine wpL_skip <| wpL_seq <| wpL_region ?_
   refine sY hf hs rfl rfl rfl (Y_assign rfl rfl) ?_; clear hf; intro a hf
   refine wpO_nil ?_
   have hs : St [] W _ [.blk b1 55 [.int .i64 p0.Events, .slice au p0.Places.length aw], .blk b2 129 [.int .i64 p2.Num, .int .i64 p2.Den], .row none 0 0 2 1 (ints ([] : List Int))] := hs.addNil 2 1
   obtain rfl := Option.some.inj hm
   refine wpL_ret (ret_tmp rfl hf rfl ?_)
   exact ⟨_, rfl, none, 0, 0, none, 0, 0, ([] : List Int), rfl, rfl, .inr ⟨rfl, rfl, rfl, rfl⟩, hs.sel [2] (by decide)⟩
 ·have hm := bif_f hm hb11
  refine wpL_skip <| wpL_seq <| wpL_seq <| wpL_region ?_
  refine sY hf hs rfl rfl rfl (Y_assign rfl rfl) ?_; clear hf; intro a hf
  refine wpO_nil ?_
  obtain ⟨r1006, hl1007, hm⟩ := bind_some hm
  refine wpL_block (fun a w => Sum.inr () = r1006 ∧ Fr a 104 [] ∧ St [] W w []) ?_ ?_
  ·refine wpL_loop (fun n a w => ∃ x676 : Int, spec_l15Grow_L1 F p0 p1 p2 p3 q5 q9 (spec_l15Grow_rec F k_) n x676 = some r1006 ∧ Fr a 104 [(1, .slice aA p1.length aC), (3, .int .i64 p3), (4, .pointer (some ⟨b1, 0, none⟩)), (6, .pointer (some ⟨b2, 0, none⟩)), (9, .int .i64 q5.From), (10, .int .i64 q9.To), (13, .int .i64 x676)] ∧ St [] W w [.blk b1 55 [.int .i64 p0.Events, .slice au p0.Places.length aw], .blk b2 129 [.int .i64 p2.Num, .int .i64 p2.Den]]) F ?_ ?_ ?_
   ·exact ⟨0, hl1007, (FrD.pick (FrD.pick (FrD.pick (FrD.pick (FrD.pick (FrD.pick (FrD.pick hf.none hf rfl) hf rfl) hf rfl) hf rfl) hf rfl) hf rfl) hf rfl), hs⟩
   ·rintro a w ⟨x676, h0_, -, -⟩; simp [spec_l15Grow_L1] at h0_
   ·rintro n1009 a w ⟨x676, hm1008, hf, hs⟩
    rw [spec_l15Grow_L1] at hm1008
    refine wpL_seq <| wpL_seq <| wpL_region ?_
    refine sY hf hs rfl rfl rfl (Y_move rfl rfl) ?_; clear hf; intro a hf
    refine sY hf hs rfl rfl rfl (Y_fieldAddr rfl rfl fo55_1) ?_; clear hf; intro a hf
    refine sY hf hs rfl rfl rfl (Y_load_blk rfl rfl (i := 0) rfl rfl ag53) ?_; clear hf; intro a hf
    refine sY hf hs rfl rfl rfl (Y_lenH rfl rfl el53 rfl) ?_; clear hf; intro a hf
    refine sY hf hs rfl rfl rfl (Y_lss rfl rfl rfl) ?_; clear hf; intro a hf
    refine wpO_nil ?_
    refine wpL_cond hf rfl (fun hb1010 => ?_) (fun hb1010 => ?_)
    ·have hm1008 := bif_t hm1008 hb1010
     refine wpL_skip <| wpL_seq ?_
     obtain ⟨r1174, hj1175, hm1008⟩ := bind_some hm1008
     refine wpL_block (fun a w => Sum.inr () = r1174 ∧ Fr a 104 [(1, .slice aA p1.length aC), (3, .int .i64 p3), (4, .pointer (some ⟨b1, 0, none⟩)), (6, .pointer (some ⟨b2, 0, none⟩)), (9, .int .i64 q5.From), (10, .int .i64 q9.To), (13, .int .i64 x676)] ∧ St [] W w [.blk b1 55 [.int .i64 p0.Events, .slice au p0.Places.length aw], .blk b2 129 [.int .i64 p2.Num, .int .i64 p2.Den]]) ?_ ?_
     ·refine wpL_seq <| wpL_region ?_
      refine sY hf hs rfl rfl rfl (Y_fieldAddr rfl rfl fo55_1) ?_; clear hf; intro a hf
      refine sY hf hs rfl rfl rfl (Y_load_blk rfl rfl (i := 0) rfl rfl ag53) ?_; clear hf; intro a hf
      refine sY hf hs rfl rfl rfl (Y_move rfl rfl) ?_; clear hf; intro a hf
      obtain ⟨q1176, hi1177, hj1175⟩ := bind_some hj1175
      obtain ⟨hi1177a, hi1177b, hi1177q⟩ := idx_some hi1177
      refine sY hf hs rfl rfl rfl (Y_index rfl rfl rfl el53 ti64 (Rd.isAt (aZ.at hs) (recs_at (s := 4) GPlace.len hi1177q (j := 0) rfl)) hi1177a hi1177b) ?_; clear hf; intro a hf
      refine sY hf hs rfl rfl rfl (Y_load_rdS rfl rfl (us := [.int .i64 q1176.From, .int .i64 q1176.To, .int .i64 q1176.Delay, .int .i64 q1176.Tokens]) (fun w hs => aZ.at hs) (fun j u hj => recs_at (s := 4) GPlace.len hi1177q hj) (Nat.succ_pos _) ag64 ti64 rfl) ?_; clear hf; intro a hf
      refine sAlloc hf hs rfl rfl rfl rfl ti64 ?_; clear hf hs; intro a w b1178 hs hf
      have hs : St _ W w [_, _, .blk b1178 64 [.int .i64 0, .int .i64 0, .int .i64 0, .int .i64 0]] := hs
      refine sStore (i := 2) (us := [.int .i64 q1176.From, .int .i64 q1176.To, .int .i64 q1176.Delay, .int .i64 q1176.Tokens]) hf hs rfl rfl rfl rfl rfl rfl ti64 rfl rfl rfl (Nat.le_of_ble_eq_true rfl) rfl ?_; clear hs; intro w hs
      have hs : St _ W w [_, _, .blk b1178 64 [.int .i64 q1176.From, .int .i64 q1176.To, .int .i64 q1176.Delay, .int .i64 q1176.Tokens]] := hs
      refine wpO_nil <| wpL_seq <| wpL_seq ?_
      obtain ⟨r1185, hj1186, hj1175⟩ := bind_some hj1175
      refine wpL_cut (fun a w => ∃ b1184 : Bool, b1184 = r1185 ∧ Fr a 104 [(1, .slice aA p1.length aC), (3, .int .i64 p3), (4, .pointer (some ⟨b1, 0, none⟩)), (6, .pointer (some ⟨b2, 0, none⟩)), (9, .int .i64 q5.From), (10, .int .i64 q9.To), (13, .int .i64 x676), (90, .bool b1184)] ∧ St [] W w [.blk b1 55 [.int .i64 p0.Events, .slice au p0.Places.length aw], .blk b2 129 [.int .i64 p2.Num, .int .i64 p2.Den]]) ?_ ?_
      ·refine wpL_region ?_
       refine sY hf hs rfl rfl rfl (Y_fieldAddr rfl rfl fo64_0) ?_; clear hf; intro a hf
       refine sY hf hs rfl rfl rfl (Y_load_blk rfl rfl (i := 2) rfl rfl ag2) ?_; clear hf; intro a hf
       refine sY hf hs rfl rfl rfl (Y_move rfl rfl) ?_; clear hf; intro a hf
       refine sY hf hs rfl rfl rfl (Y_neq rfl rfl rfl) ?_; clear hf; intro a hf
       refine sY hf hs rfl rfl rfl (Y_move rfl rfl) ?_; clear hf; intro a hf
       refine bsplit (q1176.From != q9.To) (fun hb1187 => ?_) (fun hb1187 => ?_)
       ·have hj1186 := bif_t hj1186 hb1187
        refine sNo hf rfl rfl rfl (congrArg (fun b => some (Value.bool b)) hb1187) rfl rfl rfl ?_; clear hf; intro a hf
        refine sNo hf rfl rfl rfl (congrArg (fun b => some (Value.bool b)) hb1187) rfl rfl rfl ?_; clear hf; intro a hf
        refine sNo hf rfl rfl rfl (congrArg (fun b => some (Value.bool b)) hb1187) rfl rfl rfl ?_; clear hf; intro a hf
        refine sNo hf rfl rfl rfl (congrArg (fun b => some (Value.bool b)) hb1187) rfl rfl rfl ?_; clear hf; intro a hf
        refine sY hf hs rfl rfl rfl (Y_pickT rfl (congrArg (fun b => some (Value.bool b)) hb1187) rfl) ?_; clear hf; intro a hf
        refine sY hf hs rfl rfl rfl (Y_move rfl rfl) ?_; clear hf; intro a hf
        refine sNo hf rfl rfl rfl rfl rfl rfl rfl ?_; clear hf; intro a hf
        refine sNo hf rfl rfl rfl rfl rfl rfl rfl ?_; clear hf; intro a hf
        refine sNo hf rfl rfl rfl rfl rfl rfl rfl ?_; clear hf; intro a hf
        refine sNo hf rfl rfl rfl rfl rfl rfl rfl ?_; clear hf; intro a hf
        refine sNo hf rfl rfl rfl rfl rfl rfl rfl ?_; clear hf; intro a hf
        refine sNoU hf rfl rfl rfl rfl rfl rfl rfl ?_; clear hf; intro a hf
        refine sNoU hf rfl rfl rfl rfl rfl rfl rfl ?_; clear hf; intro a hf
        refine sNoU hf rfl rfl rfl rfl rfl rfl rfl ?_; clear hf; intro a hf
        refine sNoU hf rfl rfl rfl rfl rfl rfl rfl ?_; clear hf; intro a hf
        refine sNoU hf rfl rfl rfl rfl rfl rfl rfl ?_; clear hf; intro a hf
        refine sNo hf rfl rfl rfl rfl rfl rfl rfl ?_; clear hf; intro a hf
        refine sY hf hs rfl rfl rfl (Y_pickT rfl rfl rfl) ?_; clear hf; intro a hf
        refine wpO_nil ?_
        refine wpL_nil (then_normal ?_)
        exact ⟨true, Option.some.inj hj1186, (FrD.pick (FrD.pick (FrD.pick (FrD.pick (FrD.pick (FrD.pick (FrD.pick (FrD.pick hf.none hf rfl) hf rfl) hf rfl) hf rfl) hf rfl) hf rfl) hf rfl) hf rfl), hs.sel [0, 1] (by decide)⟩
       ·have hj1186 := bif_f hj1186 hb1187
        refine sYg hf hs rfl rfl rfl (congrArg (fun b => some (Value.bool b)) hb1187) rfl rfl rfl (Y_fieldAddr rfl rfl fo64_1) ?_; clear hf; intro a hf
        refine sYg hf hs rfl rfl rfl (congrArg (fun b => some (Value.bool b)) hb1187) rfl rfl rfl (Y_load_blk rfl rfl (i := 2) rfl rfl ag2) ?_; clear hf; intro a hf
        refine sYg hf hs rfl rfl rfl (congrArg (fun b => some (Value.bool b)) hb1187) rfl rfl rfl (Y_move rfl rfl) ?_; clear hf; intro a hf
        refine sYg hf hs rfl rfl rfl (congrArg (fun b => some (Value.bool b)) hb1187) rfl rfl rfl (Y_lss rfl rfl rfl) ?_; clear hf; intro a hf
        refine sY hf hs rfl rfl rfl (Y_pickF rfl (congrArg (fun b => some (Value.bool b)) hb1187) rfl) ?_; clear hf; intro a hf
        refine sY hf hs rfl rfl rfl (Y_move rfl rfl) ?_; clear hf; intro a hf
        refine bsplit (decide (q1176.To < q5.From)) (fun hb1188 => ?_) (fun hb1188 => ?_)
        ·have hj1186 := bif_t hj1186 hb1188
         refine sNo hf rfl rfl rfl (congrArg (fun b => some (Value.bool b)) hb1188) rfl rfl rfl ?_; clear hf; intro a hf
         refine sNo hf rfl rfl rfl (congrArg (fun b => some (Value.bool b)) hb1188) rfl rfl rfl ?_; clear hf; intro a hf
         refine sNo hf rfl rfl rfl (congrArg (fun b => some (Value.bool b)) hb1188) rfl rfl rfl ?_; clear hf; intro a hf
         refine sNo hf rfl rfl rfl (congrArg (fun b => some (Value.bool b)) hb1188) rfl rfl rfl ?_; clear hf; intro a hf
         refine sNo hf rfl rfl rfl (congrArg (fun b => some (Value.bool b)) hb1188) rfl rfl rfl ?_; clear hf; intro a hf
         refine sNoU hf rfl rfl rfl rfl rfl rfl rfl ?_; clear hf; intro a hf
         refine sNoU hf rfl rfl rfl rfl rfl rfl rfl ?_; clear hf; intro a hf
         refine sNoU hf rfl rfl rfl rfl rfl rfl rfl ?_; clear hf; intro a hf
         refine sNoU hf rfl rfl rfl rfl rfl rfl rfl ?_; clear hf; intro a hf
         refine sNoU hf rfl rfl rfl rfl rfl rfl rfl ?_; clear hf; intro a hf
         refine sNo hf rfl rfl rfl (congrArg (fun b => some (Value.bool b)) hb1188) rfl rfl rfl ?_; clear hf; intro a hf
         refine sY hf hs rfl rfl rfl (Y_pickT rfl (congrArg (fun b => some (Value.bool b)) hb1188) rfl) ?_; clear hf; intro a hf
         refine wpO_nil ?_
         refine wpL_nil (then_normal ?_)
         exact ⟨true, Option.some.inj hj1186, (FrD.pick (FrD.pick (FrD.pick (FrD.pick (FrD.pick (FrD.pick (FrD.pick (FrD.pick hf.none hf rfl) hf rfl) hf rfl) hf rfl) hf rfl) hf rfl) hf rfl) hf rfl), hs.sel [0, 1] (by decide)⟩
        ·have hj1186 := bif_f hj1186 hb1188
         refine sYg hf hs rfl rfl rfl (congrArg (fun b => some (Value.bool b)) hb1188) rfl rfl rfl (Y_fieldAddr rfl rfl fo64_1) ?_; clear hf; intro a hf
         refine sYg hf hs rfl rfl rfl (congrArg (fun b => some (Value.bool b)) hb1188) rfl rfl rfl (Y_load_blk rfl rfl (i := 2) rfl rfl ag2) ?_; clear hf; intro a hf
         refine sYg hf hs rfl rfl rfl (congrArg (fun b => some (Value.bool b)) hb1188) rfl rfl rfl (Y_move rfl rfl) ?_; clear hf; intro a hf
         refine sYg hf hs rfl rfl rfl (congrArg (fun b => some (Value.bool b)) hb1188) rfl rfl rfl (Y_neq rfl rfl rfl) ?_; clear hf; intro a hf
         refine sYg hf hs rfl rfl rfl (congrArg (fun b => some (Value.bool b)) hb1188) rfl rfl rfl (Y_move rfl rfl) ?_; clear hf; intro a hf
         refine bsplit (q1176.To != q5.From) (fun hb1189 => ?_) (fun hb1189 => ?_)
         ·have hj1186 := bif_t hj1186 hb1189
          refine sYg hf hs rfl rfl rfl (congrArg (fun b => some (Value.bool b)) hb1189) rfl rfl rfl (Y_load_blkS rfl rfl (i := 0) rfl ag55 ti55 rfl) ?_; clear hf; intro a hf
          refine sYg hf hs rfl rfl rfl (congrArg (fun b => some (Value.bool b)) hb1189) rfl rfl rfl (Y_move rfl rfl) ?_; clear hf; intro a hf
          refine sYg hf hs rfl rfl rfl (congrArg (fun b => some (Value.bool b)) hb1189) rfl rfl rfl (Y_fieldAddr rfl rfl fo64_1) ?_; clear hf; intro a hf
          refine sYg hf hs rfl rfl rfl (congrArg (fun b => some (Value.bool b)) hb1189) rfl rfl rfl (Y_load_blk rfl rfl (i := 2) rfl rfl ag2) ?_; clear hf; intro a hf
          obtain ⟨r1190, hc1191, hj1186⟩ := bind_some hj1186
          refine sCallg hf rfl rfl rfl (congrArg (fun b => some (Value.bool b)) hb1189) rfl rfl rfl rfl (cap := []) rfl rfl en225 (spec_l15Visits_ok F p0 au p0.Places.length aw rfl p1 aA p1.length aC rfl q1176.To _ _ hc1191 (aZ.at hs) (bk.at hs)) ?_; clear hf
          rintro _ w ⟨rfl, hs1⟩ a hf
          have hs : St _ W w [_, _, _] := hs.ext hs1.below
          clear hs1
          refine sYg hf hs rfl rfl rfl (congrArg (fun b => some (Value.bool b)) hb1188) rfl rfl rfl (Y_pickT rfl (congrArg (fun b => some (Value.bool b)) hb1189) rfl) ?_; clear hf; intro a hf
          refine sY hf hs rfl rfl rfl (Y_pickF rfl (congrArg (fun b => some (Value.bool b)) hb1188) rfl) ?_; clear hf; intro a hf
          refine wpO_nil ?_
          refine wpL_nil (then_normal ?_)
          exact ⟨r1190, Option.some.inj hj1186, (FrD.pick (FrD.pick (FrD.pick (FrD.pick (FrD.pick (FrD.pick (FrD.pick (FrD.pick hf.none hf rfl) hf rfl) hf rfl) hf rfl) hf rfl) hf rfl) hf rfl) hf rfl), hs.sel [0, 1] (by decide)⟩
         ·have hj1186 := bif_f hj1186 hb1189
          refine sNo hf rfl rfl rfl (congrArg (fun b => some (Value.bool b)) hb1189) rfl rfl rfl ?_; clear hf; intro a hf
          refine sNo hf rfl rfl rfl (congrArg (fun b => some (Value.bool b)) hb1189) rfl rfl rfl ?_; clear hf; intro a hf
          refine sNo hf rfl rfl rfl (congrArg (fun b => some (Value.bool b)) hb1189) rfl rfl rfl ?_; clear hf; intro a hf
          refine sNo hf rfl rfl rfl (congrArg (fun b => some (Value.bool b)) hb1189) rfl rfl rfl ?_; clear hf; intro a hf
          refine sNo hf rfl rfl rfl (congrArg (fun b => some (Value.bool b)) hb1189) rfl rfl rfl ?_; clear hf; intro a hf
          refine sYg hf hs rfl rfl rfl (congrArg (fun b => some (Value.bool b)) hb1188) rfl rfl rfl (Y_pickF rfl (congrArg (fun b => some (Value.bool b)) hb1189) rfl) ?_; clear hf; intro a hf
          refine sY hf hs rfl rfl rfl (Y_pickF rfl (congrArg (fun b => some (Value.bool b)) hb1188) rfl) ?_; clear hf; intro a hf
          refine wpO_nil ?_
          refine wpL_nil (then_normal ?_)
          exact ⟨false, Option.some.inj hj1186, (FrD.pick (FrD.pick (FrD.pick (FrD.pick (FrD.pick (FrD.pick (FrD.pick (FrD.pick hf.none hf rfl) hf rfl) hf rfl) hf rfl) hf rfl) hf rfl) hf rfl) hf rfl), hs.sel [0, 1] (by decide)⟩
      ·rintro a w ⟨b1184, hr_, hf, hs⟩
       subst hr_
       try dsimp only at hj1175
       refine wpL_cond hf rfl (fun hb1192 => ?_) (fun hb1192 => ?_)
       ·have hj1175 := bif_t hj1175 hb1192
        refine wpL_exit (Qb_exit ?_)
        exact ⟨Option.some.inj hj1175, (FrD.pick (FrD.pick (FrD.pick (FrD.pick (FrD.pick (FrD.pick (FrD.pick hf.none hf rfl) hf rfl) hf rfl) hf rfl) hf rfl) hf rfl) hf rfl), hs⟩
       ·have hj1175 := bif_f hj1175 hb1192
        refine wpL_skip <| wpL_seq ?_
        obtain ⟨r1267, hj1268, hj1175⟩ := bind_some hj1175
        refine wpL_cut (fun a w => ∃ xs1262 : List Int, ∃ A1263, ∃ n1264, ∃ c1265, xs1262 = r1267 ∧ n1264 = xs1262.length ∧ Fr a 104 [(1, .slice aA p1.length aC), (3, .int .i64 p3), (4, .pointer (some ⟨b1, 0, none⟩)), (6, .pointer (some ⟨b2, 0, none⟩)), (9, .int .i64 q5.From), (10, .int .i64 q9.To), (13, .int .i64 x676), (15, .slice A1263 n1264 c1265)] ∧ St [] W w [.blk b1 55 [.int .i64 p0.Events, .slice au p0.Places.length aw], .blk b2 129 [.int .i64 p2.Num, .int .i64 p2.Den], .row A1263 n1264 c1265 2 1 (ints xs1262)]) ?_ ?_
        ·refine wpL_drawM [.blk b1 55 [.int .i64 p0.Events, .slice au p0.Places.length aw], .blk b2 129 [.int .i64 p2.Num, .int .i64 p2.Den]] [8] (by kernel_rfl) hs ?_; clear hs; intro w hs
         have hs0 : St _ W w [_, _] := hs
         refine mY (i := 0) [[]] rfl (by kernel_rfl) (by kernel_rfl) hf hs0 rfl rfl rfl (Y_load_blkS rfl rfl (i := 0) rfl ag55 ti55 rfl) ?_; clear hf; intro a hf
         refine mYp (i := 1) rfl (by kernel_rfl) (by kernel_rfl) hf rfl rfl rfl (fun _ => Y_move rfl rfl) ?_; clear hf; intro a hf
         refine mYp (i := 3) rfl (by kernel_rfl) (by kernel_rfl) hf rfl rfl rfl (fun _ => Y_move rfl rfl) ?_; clear hf; intro a hf
         refine mY (i := 6) [[]] rfl (by kernel_rfl) (by kernel_rfl) hf hs0 rfl rfl rfl (Y_load_blkS rfl rfl (i := 1) rfl ag129 ti129 rfl) ?_; clear hf; intro a hf
         refine mYp (i := 7) rfl (by kernel_rfl) (by kernel_rfl) hf rfl rfl rfl (fun _ => Y_move rfl rfl) ?_; clear hf; intro a hf
         refine mRun2 (i := 2) (j := 4) rfl rfl (by kernel_rfl) ?_ ?_
         ·obtain ⟨r1292, hc1293, hj1268⟩ := bind_some hj1268
          refine sCall hf rfl rfl rfl rfl (cap := []) rfl rfl en114 (spec_l01Own_ok F p1 aA p1.length aC rfl _ _ hc1293 (bk.at hs)) ?_; clear hf
          rintro _ w ⟨A1294, n1295, c1296, rfl, hn1297, hs1⟩ a hf
          have hs : St _ W w [_, _, .row A1294 n1295 c1296 2 1 (ints r1292)] := hs.join hs1
          clear hs1
          have hs0 : St _ W w [_, _] := hs.sel [0, 1] (by decide)
          refine wpO_nil ⟨Or.inr (fun _ => hs0), ?_⟩
          refine mRun (i := 4) rfl (by kernel_rfl) ?_
          refine sBuildSlice (parts := [(0, .tmp 94)]) (vs := [.int .i64 x676]) (cells := [.int .i64 x676]) hf hs rfl rfl rfl rfl rfl el28 ti2 rfl rfl rfl rfl ?_; clear hf hs; intro a w A1298 hs hA1299 hf
          have hs : St _ W w [_, _, _, .row A1298 1 1 2 1 (ints ([x676]))] := hs
          have hs0 : St _ W w [_, _] := hs.sel [0, 1] (by decide)
          refine wpO_nil ⟨Or.inr (fun _ => hs0), ?_⟩
          refine mRun (i := 5) rfl (by kernel_rfl) ?_
          obtain ⟨xs1302, ha1303, hj1268⟩ := bind_some hj1268
          refine sAppendL (i := 2) (xs := r1292) (ys := [x676]) (enc := ints) hf hs rfl rfl rfl rfl rfl rfl hn1297 rfl rfl ha1303 el28 ti2 rfl rfl rfl (hs.rd (i := 3) rfl) (Nat.succ_pos _) ints_len1 ints_append ints_one ?_; clear hf hs; intro a w A1300 c1301 hs hf
          have hs : St _ W w [_, _, .row A1300 xs1302.length c1301 2 1 (ints xs1302), _] := hs
          have hs0 : St _ W w [_, _] := hs.sel [0, 1] (by decide)
          refine wpO_nil ⟨Or.inr (fun _ => hs0), ?_⟩
          refine mRun (i := 8) rfl (by kernel_rfl) ?_
          obtain ⟨r1304, hc1305, hj1268⟩ := bind_some hj1268
          refine sCall hf rfl rfl rfl rfl (cap := []) rfl rfl en223 (ih_ p0 au p0.Places.length aw rfl xs1302 A1300 xs1302.length c1301 rfl p2 p3 _ _ hc1305 (aZ.at hs) (hs.rd (i := 2) rfl)) ?_; clear hf
          rintro _ w ⟨A1306, n1307, c1308, A1309, n1310, c1311, ys1312, rfl, hn1313, he1314, hs1⟩ a hf
          have hs : St _ W w [_, _, _, _, .row A1309 n1310 c1311 2 1 (ints ys1312)] := hs.join hs1
          clear hs1
          have hs := hs.eiOwn (i := 2) (j := 4) (enc := ints) rfl rfl (by decide) he1314
          have hs : St _ W w [_, _, .row A1306 n1307 c1308 2 1 (ints r1304), _] := hs
          refine wpO_nil ⟨Or.inl (by decide), ?_⟩
          refine mYp (i := 9) rfl (by kernel_rfl) (by kernel_rfl) hf rfl rfl rfl (fun _ => Y_assign rfl rfl) ?_; clear hf; intro a hf
          refine mDone (by kernel_rfl) ?_
          clear hs0
          refine wpL_nil (then_normal ?_)
          exact ⟨r1304, A1306, n1307, c1308, Option.some.inj hj1268, hn1313, (FrD.pick (FrD.pick (FrD.pick (FrD.pick (FrD.pick (FrD.pick (FrD.pick (FrD.pick hf.none hf rfl) hf rfl) hf rfl) hf rfl) hf rfl) hf rfl) hf rfl) hf rfl), hs.sel [0, 1, 2] (by decide)⟩
         ·refine sBuildSlice (parts := [(0, .tmp 94)]) (vs := [.int .i64 x676]) (cells := [.int .i64 x676]) hf hs rfl rfl rfl rfl rfl el28 ti2 rfl rfl rfl rfl ?_; clear hf hs; intro a w A1315 hs hA1316 hf
          have hs : St _ W w [_, _, .row A1315 1 1 2 1 (ints ([x676]))] := hs
          have hs0 : St _ W w [_, _] := hs.sel [0, 1] (by decide)
          refine wpO_nil ⟨Or.inr (fun _ => hs0), ?_⟩
          refine mRun (i := 2) rfl (by kernel_rfl) ?_
          obtain ⟨r1317, hc1318, hj1268⟩ := bind_some hj1268
          refine sCall hf rfl rfl rfl rfl (cap := []) rfl rfl en114 (spec_l01Own_ok F p1 aA p1.length aC rfl _ _ hc1318 (bk.at hs)) ?_; clear hf
          rintro _ w ⟨A1319, n1320, c1321, rfl, hn1322, hs1⟩ a hf
          have hs : St _ W w [_, _, _, .row A1319 n1320 c1321 2 1 (ints r1317)] := hs.join hs1
          clear hs1
          have hs0 : St _ W w [_, _] := hs.sel [0, 1] (by decide)
          refine wpO_nil ⟨Or.inr (fun _ => hs0), ?_⟩
          refine mRun (i := 5) rfl (by kernel_rfl) ?_
          obtain ⟨xs1325, ha1326, hj1268⟩ := bind_some hj1268
          refine sAppendL (i := 3) (xs := r1317) (ys := [x676]) (enc := ints) hf hs rfl rfl rfl rfl rfl rfl hn1322 rfl rfl ha1326 el28 ti2 rfl rfl rfl (hs.rd (i := 2) rfl) (Nat.succ_pos _) ints_len1 ints_append ints_one ?_; clear hf hs; intro a w A1323 c1324 hs hf
          have hs : St _ W w [_, _, _, .row A1323 xs1325.length c1324 2 1 (ints xs1325)] := hs
          have hs0 : St _ W w [_, _] := hs.sel [0, 1] (by decide)
          refine wpO_nil ⟨Or.inr (fun _ => hs0), ?_⟩
          refine mRun (i := 8) rfl (by kernel_rfl) ?_
          obtain ⟨r1327, hc1328, hj1268⟩ := bind_some hj1268
          refine sCall hf rfl rfl rfl rfl (cap := []) rfl rfl en223 (ih_ p0 au p0.Places.length aw rfl xs1325 A1323 xs1325.length c1324 rfl p2 p3 _ _ hc1328 (aZ.at hs) (hs.rd (i := 3) rfl)) ?_; clear hf
          rintro _ w ⟨A1329, n1330, c1331, A1332, n1333, c1334, ys1335, rfl, hn1336, he1337, hs1⟩ a hf
          have hs : St _ W w [_, _, _, _, .row A1332 n1333 c1334 2 1 (ints ys1335)] := hs.join hs1
          clear hs1
          have hs := hs.eiOwn (i := 3) (j := 4) (enc := ints) rfl rfl (by decide) he1337
          have hs : St _ W w [_, _, _, .row A1329 n1330 c1331 2 1 (ints r1327)] := hs
          refine wpO_nil ⟨Or.inl (by decide), ?_⟩
          refine mYp (i := 9) rfl (by kernel_rfl) (by kernel_rfl) hf rfl rfl rfl (fun _ => Y_assign rfl rfl) ?_; clear hf; intro a hf
          refine mDone (by kernel_rfl) ?_
          clear hs0
          refine wpL_nil (then_normal ?_)
          exact ⟨r1327, A1329, n1330, c1331, Option.some.inj hj1268, hn1336, (FrD.pick (FrD.pick (FrD.pick (FrD.pick (FrD.pick (FrD.pick (FrD.pick (FrD.pick hf.none hf rfl) hf rfl) hf rfl) hf rfl) hf rfl) hf rfl) hf rfl) hf rfl), hs.sel [0, 1, 3] (by decide)⟩
        ·rintro a w ⟨xs1262, A1263, n1264, c1265, hr_, hn1266, hf, hs⟩
         subst hr_
         try dsimp only at hj1175
         refine wpL_seq <| wpL_region ?_
         refine sY hf hs rfl rfl rfl (Y_move rfl rfl) ?_; clear hf; intro a hf
         refine sY hf hs rfl rfl rfl (Y_lenH rfl rfl el28 hn1266) ?_; clear hf; intro a hf
         refine sY hf hs rfl rfl rfl (Y_gtr rfl rfl rfl) ?_; clear hf; intro a hf
         refine wpO_nil ?_
         refine wpL_cond hf rfl (fun hb1338 => ?_) (fun hb1338 => ?_)
         ·have hj1175 := bif_t hj1175 hb1338
          refine wpL_seq <| wpL_region ?_
          refine sY hf hs rfl rfl rfl (Y_move rfl rfl) ?_; clear hf; intro a hf
          refine sY hf hs rfl rfl rfl (Y_assign rfl rfl) ?_; clear hf; intro a hf
          refine wpO_nil ?_
          obtain rfl := Option.some.inj hj1175
          try dsimp only at hm1008
          obtain rfl := Option.some.inj hm1008
          try dsimp only at hm
          obtain rfl := Option.some.inj hm
          refine wpL_ret (Qb_ret (Ql_ret (Qb_ret (ret_tmp rfl hf rfl ?_))))
          exact ⟨_, rfl, A1263, n1264, c1265, A1263, n1264, c1265, xs1262, rfl, hn1266, .inr ⟨rfl, rfl, rfl, rfl⟩, hs.sel [2] (by decide)⟩
         ·have hj1175 := bif_f hj1175 hb1338
          refine wpL_skip ?_
          refine wpL_nil (Qb_normal ?_)
          exact ⟨Option.some.inj hj1175, (FrD.pick (FrD.pick (FrD.pick (FrD.pick (FrD.pick (FrD.pick (FrD.pick hf.none hf rfl) hf rfl) hf rfl) hf rfl) hf rfl) hf rfl) hf rfl), hs.sel [0, 1] (by decide)⟩
     ·rintro a w ⟨hr_, hf, hs⟩
      subst hr_
      try dsimp only at hm1008
      refine wpL_region ?_
      refine sY hf hs rfl rfl rfl (Y_move rfl rfl) ?_; clear hf; intro a hf
      refine sY hf hs rfl rfl rfl (Y_add rfl rfl rfl) ?_; clear hf; intro a hf
      refine sY hf hs rfl rfl rfl (Y_assign rfl rfl) ?_; clear hf; intro a hf
      refine wpO_nil ?_
      refine wpL_nil (Ql_normal ?_)
      exact ⟨(IntKind.i64.wrap (x676 + 1)), hm1008, (FrD.pick (FrD.pick (FrD.pick (FrD.pick (FrD.pick (FrD.pick (FrD.pick hf.none hf rfl) hf rfl) hf rfl) hf rfl) hf rfl) hf rfl) hf rfl), hs⟩
    ·have hm1008 := bif_f hm1008 hb1010
     refine wpL_exit (Ql_exit (Qb_exit ?_))
     exact ⟨Option.some.inj hm1008, hf.none, hs.sel [] (by decide)⟩
  ·rintro a w ⟨hr_, hf, hs⟩
   subst hr_
   try dsimp only at hm
   refine wpL_seq <| wpL_region ?_
   refine sY hf hs rfl rfl rfl (Y_assign rfl rfl) ?_; clear hf; intro a hf
   refine wpO_nil ?_
   have hs : St [] W _ [.row none 0 0 2 1 (ints ([] : List Int))] := hs.addNil 2 1
   obtain rfl := Option.some.inj hm
   refine wpL_ret (ret_tmp rfl hf rfl ?_)
   exact ⟨_, rfl, none, 0, 0, none, 0, 0, ([] : List Int), rfl, rfl, .inr ⟨rfl, rfl, rfl, rfl⟩, hs⟩
theorem spec_l15Grow_rec_ok (F : Nat) : ∀ (k_ : Nat) (p0 : GEventGraph) (au : Option Addr) (aX aw : Nat) (_hn_p0_1 : aX = p0.Places.length) (p1 : List Int) (aA : Option Addr) (aS aC : Nat) (_hn_p1_1 : aS = p1.length) (p2 : GRatio) (p3 : Int) (r : List Int) (W : World) (_hm : spec_l15Grow_rec F k_ p0 p1 p2 p3 = some r) (_h_p0_1 : Rd W au ((recs GPlace.cells) p0.Places)) (_h_p1_1 : Rd W aA (ints p1)), Calls Try.prog 223 [.agg #[.int .i64 p0.Events, .slice au aX aw], .slice aA aS aC, .agg #[.int .i64 p2.Num, .int .i64 p2.Den], .int .i64 p3].toArray W fun e w' => ∃ v, e = .returned v ∧ ∃ A1340, ∃ n1341, ∃ c1342, ∃ A1343, ∃ n1344, ∃ c1345, ∃ ys1346, v = .slice A1340 n1341 c1342 ∧ n1341 = r.length ∧ Ei aA aS aC p1 A1343 n1344 c1345 ys1346 A1340 n1341 c1342 r ∧ St [] W w' [.row A1343 n1344 c1345 2 1 (ints ys1346)]
 | 0 => by intros; simp [spec_l15Grow_rec] at *
 | k_ + 1 => spec_l15Grow_step F k_ (spec_l15Grow_rec_ok F k_)
theorem spec_l15Grow_ok (F : Nat) : ∀ (p0 : GEventGraph) (au : Option Addr) (aX aw : Nat) (_hn_p0_1 : aX = p0.Places.length) (p1 : List Int) (aA : Option Addr) (aS aC : Nat) (_hn_p1_1 : aS = p1.length) (p2 : GRatio) (p3 : Int) (r : List Int) (W : World) (_hm : spec_l15Grow F p0 p1 p2 p3 = some r) (_h_p0_1 : Rd W au ((recs GPlace.cells) p0.Places)) (_h_p1_1 : Rd W aA (ints p1)), Calls Try.prog 223 [.agg #[.int .i64 p0.Events, .slice au aX aw], .slice aA aS aC, .agg #[.int .i64 p2.Num, .int .i64 p2.Den], .int .i64 p3].toArray W fun e w' => ∃ v, e = .returned v ∧ ∃ A1340, ∃ n1341, ∃ c1342, ∃ A1343, ∃ n1344, ∃ c1345, ∃ ys1346, v = .slice A1340 n1341 c1342 ∧ n1341 = r.length ∧ Ei aA aS aC p1 A1343 n1344 c1345 ys1346 A1340 n1341 c1342 r ∧ St [] W w' [.row A1343 n1344 c1345 2 1 (ints ys1346)] := spec_l15Grow_rec_ok F F

set_option maxRecDepth 100000 in
theorem spec_l15Over_ok (F : Nat) (ah : GEventGraph) (ag : Option Addr) (ax ai : Nat) (aB : ax = ah.Places.length) (bh : GRatio) (ct : Int) (r : List Int) (W : World) (hm : spec_l15Over F ah bh ct = some r) (ay : Rd W ag ((recs GPlace.cells) ah.Places)) :
  Calls Try.prog 214 [.agg #[.int .i64 ah.Events, .slice ag ax ai], .agg #[.int .i64 bh.Num, .int .i64 bh.Den], .int .i64 ct].toArray W fun e w' => ∃ v, e = .returned v ∧ ∃ A166, ∃ n167, ∃ c168, v = .slice A166 n167 c168 ∧ n167 = r.length ∧ St [] W w' [.row A166 n167 c168 2 1 (ints r)] := by
 subst aB
 unfold spec_l15Over at hm
 refine Calls.enter (N := 37) Try.func214 rfl rfl rfl (fun a hf => ?_)
 have hs := St.start W
 obtain ⟨w, hw_⟩ : ∃ w, w = W := ⟨W, rfl⟩
 clear hw_ w
 refine wpL_seq <| wpL_region ?_
 refine sBox hf hs rfl rfl rfl rfl rfl (cs := [.int .i64 ah.Events, .slice ag ah.Places.length ai]) rfl ?_; clear hf hs; intro a w b1 hs hf
 have hs : St _ W w [.blk b1 55 [.int .i64 ah.Events, .slice ag ah.Places.length ai]] := hs
 refine sBox hf hs rfl rfl rfl rfl rfl (cs := [.int .i64 bh.Num, .int .i64 bh.Den]) rfl ?_; clear hf hs; intro a w b2 hs hf
 have hs : St _ W w [_, .blk b2 129 [.int .i64 bh.Num, .int .i64 bh.Den]] := hs
 refine sY hf hs rfl rfl rfl (Y_assign rfl rfl) ?_; clear hf; intro a hf
 refine wpO_nil <| wpL_seq <| wpL_seq <| wpL_region ?_
 refine sY hf hs rfl rfl rfl (Y_assign rfl rfl) ?_; clear hf; intro a hf
 refine wpO_nil ?_
 obtain ⟨r122, hl123, hm⟩ := bind_some hm
 refine wpL_block (fun a w => Sum.inr () = r122 ∧ Fr a 37 [] ∧ St [] W w []) ?_ ?_
 ·refine wpL_loop (fun n a w => ∃ x82 : Int, spec_l15Over_L1 F ah bh ct n x82 = some r122 ∧ Fr a 37 [(2, .int .i64 ct), (3, .pointer (some ⟨b1, 0, none⟩)), (4, .pointer (some ⟨b2, 0, none⟩)), (7, .int .i64 x82)] ∧ St [] W w [.blk b1 55 [.int .i64 ah.Events, .slice ag ah.Places.length ai], .blk b2 129 [.int .i64 bh.Num, .int .i64 bh.Den]]) F ?_ ?_ ?_
  ·exact ⟨0, hl123, (FrD.pick (FrD.pick (FrD.pick (FrD.pick hf.none hf rfl) hf rfl) hf rfl) hf rfl), hs⟩
  ·rintro a w ⟨x82, h0_, -, -⟩; simp [spec_l15Over_L1] at h0_
  ·rintro n125 a w ⟨x82, hm124, hf, hs⟩
   rw [spec_l15Over_L1] at hm124
   refine wpL_seq <| wpL_seq <| wpL_region ?_
   refine sY hf hs rfl rfl rfl (Y_move rfl rfl) ?_; clear hf; intro a hf
   refine sY hf hs rfl rfl rfl (Y_fieldAddr rfl rfl fo55_1) ?_; clear hf; intro a hf
   refine sY hf hs rfl rfl rfl (Y_load_blk rfl rfl (i := 0) rfl rfl ag53) ?_; clear hf; intro a hf
   refine sY hf hs rfl rfl rfl (Y_lenH rfl rfl el53 rfl) ?_; clear hf; intro a hf
   refine sY hf hs rfl rfl rfl (Y_lss rfl rfl rfl) ?_; clear hf; intro a hf
   refine wpO_nil ?_
   refine wpL_cond hf rfl (fun hb126 => ?_) (fun hb126 => ?_)
   ·have hm124 := bif_t hm124 hb126
    refine wpL_skip <| wpL_seq ?_
    obtain ⟨r145, hj146, hm124⟩ := bind_some hm124
    refine wpL_block (fun a w => Sum.inr () = r145 ∧ Fr a 37 [(2, .int .i64 ct), (3, .pointer (some ⟨b1, 0, none⟩)), (4, .pointer (some ⟨b2, 0, none⟩)), (7, .int .i64 x82)] ∧ St [] W w [.blk b1 55 [.int .i64 ah.Events, .slice ag ah.Places.length ai], .blk b2 129 [.int .i64 bh.Num, .int .i64 bh.Den]]) ?_ ?_
    ·refine wpL_seq <| wpL_region ?_
     refine sY hf hs rfl rfl rfl (Y_fieldAddr rfl rfl fo55_1) ?_; clear hf; intro a hf
     refine sY hf hs rfl rfl rfl (Y_load_blk rfl rfl (i := 0) rfl rfl ag53) ?_; clear hf; intro a hf
     refine sY hf hs rfl rfl rfl (Y_move rfl rfl) ?_; clear hf; intro a hf
     obtain ⟨q147, hi148, hj146⟩ := bind_some hj146
     obtain ⟨hi148a, hi148b, hi148q⟩ := idx_some hi148
     refine sY hf hs rfl rfl rfl (Y_index rfl rfl rfl el53 ti64 (Rd.isAt (ay.at hs) (recs_at (s := 4) GPlace.len hi148q (j := 0) rfl)) hi148a hi148b) ?_; clear hf; intro a hf
     refine sY hf hs rfl rfl rfl (Y_load_rdS rfl rfl (us := [.int .i64 q147.From, .int .i64 q147.To, .int .i64 q147.Delay, .int .i64 q147.Tokens]) (fun w hs => ay.at hs) (fun j u hj => recs_at (s := 4) GPlace.len hi148q hj) (Nat.succ_pos _) ag64 ti64 rfl) ?_; clear hf; intro a hf
     refine sAlloc hf hs rfl rfl rfl rfl ti64 ?_; clear hf hs; intro a w b149 hs hf
     have hs : St _ W w [_, _, .blk b149 64 [.int .i64 0, .int .i64 0, .int .i64 0, .int .i64 0]] := hs
     refine sStore (i := 2) (us := [.int .i64 q147.From, .int .i64 q147.To, .int .i64 q147.Delay, .int .i64 q147.Tokens]) hf hs rfl rfl rfl rfl rfl rfl ti64 rfl rfl rfl (Nat.le_of_ble_eq_true rfl) rfl ?_; clear hs; intro w hs
     have hs : St _ W w [_, _, .blk b149 64 [.int .i64 q147.From, .int .i64 q147.To, .int .i64 q147.Delay, .int .i64 q147.Tokens]] := hs
     refine wpO_nil <| wpL_seq <| wpL_seq <| wpL_region ?_
     refine sY hf hs rfl rfl rfl (Y_fieldAddr rfl rfl fo64_1) ?_; clear hf; intro a hf
     refine sY hf hs rfl rfl rfl (Y_load_blk rfl rfl (i := 2) rfl rfl ag2) ?_; clear hf; intro a hf
     refine sY hf hs rfl rfl rfl (Y_fieldAddr rfl rfl fo64_0) ?_; clear hf; intro a hf
     refine sY hf hs rfl rfl rfl (Y_load_blk rfl rfl (i := 2) rfl rfl ag2) ?_; clear hf; intro a hf
     refine sY hf hs rfl rfl rfl (Y_lss rfl rfl rfl) ?_; clear hf; intro a hf
     refine wpO_nil ?_
     refine wpL_cond hf rfl (fun hb150 => ?_) (fun hb150 => ?_)
     ·have hj146 := bif_t hj146 hb150
      refine wpL_exit (Qb_exit ?_)
      exact ⟨Option.some.inj hj146, (FrD.pick (FrD.pick (FrD.pick (FrD.pick hf.none hf rfl) hf rfl) hf rfl) hf rfl), hs.sel [0, 1] (by decide)⟩
     ·have hj146 := bif_f hj146 hb150
      refine wpL_skip <| wpL_seq <| wpL_region ?_
      refine sY hf hs rfl rfl rfl (Y_load_blkS rfl rfl (i := 0) rfl ag55 ti55 rfl) ?_; clear hf; intro a hf
      refine sY hf hs rfl rfl rfl (Y_move rfl rfl) ?_; clear hf; intro a hf
      refine sBuildSlice (parts := [(0, .tmp 28)]) (vs := [.int .i64 x82]) (cells := [.int .i64 x82]) hf hs rfl rfl rfl rfl rfl el28 ti2 rfl rfl rfl rfl ?_; clear hf hs; intro a w A151 hs hA152 hf
      have hs : St _ W w [_, _, _, .row A151 1 1 2 1 (ints ([x82]))] := hs
      refine sY hf hs rfl rfl rfl (Y_load_blkS rfl rfl (i := 1) rfl ag129 ti129 rfl) ?_; clear hf; intro a hf
      refine sY hf hs rfl rfl rfl (Y_move rfl rfl) ?_; clear hf; intro a hf
      obtain ⟨r153, hc154, hj146⟩ := bind_some hj146
      refine sCall hf rfl rfl rfl rfl (cap := []) rfl rfl en223 (spec_l15Grow_ok F ah ag ah.Places.length ai rfl ([x82]) A151 1 1 rfl bh ct _ _ hc154 (ay.at hs) (hs.rd (i := 3) rfl)) ?_; clear hf
      rintro _ w ⟨A155, n156, c157, A158, n159, c160, ys161, rfl, hn162, he163, hs1⟩ a hf
      have hs : St _ W w [_, _, _, _, .row A158 n159 c160 2 1 (ints ys161)] := hs.join hs1
      clear hs1
      have hs := hs.eiOwn (i := 3) (j := 4) (enc := ints) rfl rfl (by decide) he163
      have hs : St _ W w [_, _, _, .row A155 n156 c157 2 1 (ints r153)] := hs
      refine sY hf hs rfl rfl rfl (Y_assign rfl rfl) ?_; clear hf; intro a hf
      refine wpO_nil <| wpL_seq <| wpL_region ?_
      refine sY hf hs rfl rfl rfl (Y_move rfl rfl) ?_; clear hf; intro a hf
      refine sY hf hs rfl rfl rfl (Y_lenH rfl rfl el28 hn162) ?_; clear hf; intro a hf
      refine sY hf hs rfl rfl rfl (Y_gtr rfl rfl rfl) ?_; clear hf; intro a hf
      refine wpO_nil ?_
      refine wpL_cond hf rfl (fun hb164 => ?_) (fun hb164 => ?_)
      ·have hj146 := bif_t hj146 hb164
       refine wpL_seq <| wpL_region ?_
       refine sY hf hs rfl rfl rfl (Y_move rfl rfl) ?_; clear hf; intro a hf
       refine sY hf hs rfl rfl rfl (Y_assign rfl rfl) ?_; clear hf; intro a hf
       refine wpO_nil ?_
       obtain rfl := Option.some.inj hj146
       try dsimp only at hm124
       obtain rfl := Option.some.inj hm124
       try dsimp only at hm
       obtain rfl := Option.some.inj hm
       refine wpL_ret (Qb_ret (Ql_ret (Qb_ret (ret_tmp rfl hf rfl ?_))))
       exact ⟨_, rfl, A155, n156, c157, rfl, hn162, hs.sel [3] (by decide)⟩
      ·have hj146 := bif_f hj146 hb164
       refine wpL_skip ?_
       refine wpL_nil (Qb_normal ?_)
       exact ⟨Option.some.inj hj146, (FrD.pick (FrD.pick (FrD.pick (FrD.pick hf.none hf rfl) hf rfl) hf rfl) hf rfl), hs.sel [0, 1] (by decide)⟩
    ·rintro a w ⟨hr_, hf, hs⟩
     subst hr_
     try dsimp only at hm124
     refine wpL_region ?_
     refine sY hf hs rfl rfl rfl (Y_move rfl rfl) ?_; clear hf; intro a hf
     refine sY hf hs rfl rfl rfl (Y_add rfl rfl rfl) ?_; clear hf; intro a hf
     refine sY hf hs rfl rfl rfl (Y_assign rfl rfl) ?_; clear hf; intro a hf
     refine wpO_nil ?_
     refine wpL_nil (Ql_normal ?_)
     exact ⟨(IntKind.i64.wrap (x82 + 1)), hm124, (FrD.pick (FrD.pick (FrD.pick (FrD.pick hf.none hf rfl) hf rfl) hf rfl) hf rfl), hs⟩
   ·have hm124 := bif_f hm124 hb126
    refine wpL_exit (Ql_exit (Qb_exit ?_))
    exact ⟨Option.some.inj hm124, hf.none, hs.sel [] (by decide)⟩
 ·rintro a w ⟨hr_, hf, hs⟩
  subst hr_
  try dsimp only at hm
  refine wpL_seq <| wpL_region ?_
  refine sY hf hs rfl rfl rfl (Y_assign rfl rfl) ?_; clear hf; intro a hf
  refine wpO_nil ?_
  have hs : St [] W _ [.row none 0 0 2 1 (ints ([] : List Int))] := hs.addNil 2 1
  obtain rfl := Option.some.inj hm
  refine wpL_ret (ret_tmp rfl hf rfl ?_)
  exact ⟨_, rfl, none, 0, 0, rfl, rfl, hs⟩

set_option maxRecDepth 100000 in
theorem spec_l01Floor_ok (F : Nat) (aK : Int) (aY : Int) (r : Int) (W : World) (hm : spec_l01Floor F aK aY = some r) :
  Calls Try.prog 224 [.int .i64 aK, .int .i64 aY].toArray W fun e w' => ∃ v, e = .returned v ∧ v = .int .i64 r ∧ St [] W w' [] := by
 unfold spec_l01Floor at hm
 refine Calls.enter (N := 16) Try.func224 rfl rfl rfl (fun a hf => ?_)
 have hs := St.start W
 obtain ⟨w, hw_⟩ : ∃ w, w = W := ⟨W, rfl⟩
 clear hw_ w
 refine wpL_seq <| wpL_region ?_
 refine sY hf hs rfl rfl rfl (Y_assign rfl rfl) ?_; clear hf; intro a hf
 refine wpO_nil <| wpL_seq <| wpL_region ?_
 refine sY hf hs rfl rfl rfl (Y_move rfl rfl) ?_; clear hf; intro a hf
 refine sY hf hs rfl rfl rfl (Y_move rfl rfl) ?_; clear hf; intro a hf
 obtain ⟨_, hz1, hm⟩ := bind_some hm
 refine sY hf hs rfl rfl rfl (Y_quo rfl rfl rfl (nz_some hz1)) ?_; clear hf; intro a hf
 refine sY hf hs rfl rfl rfl (Y_assign rfl rfl) ?_; clear hf; intro a hf
 refine wpO_nil <| wpL_seq <| wpL_seq <| wpL_region ?_
 refine sY hf hs rfl rfl rfl (Y_move rfl rfl) ?_; clear hf; intro a hf
 refine sY hf hs rfl rfl rfl (Y_move rfl rfl) ?_; clear hf; intro a hf
 obtain ⟨_, hz3, hm⟩ := bind_some hm
 refine sY hf hs rfl rfl rfl (Y_rem rfl rfl rfl (nz_some hz3)) ?_; clear hf; intro a hf
 refine sY hf hs rfl rfl rfl (Y_lss rfl rfl rfl) ?_; clear hf; intro a hf
 refine wpO_nil ?_
 obtain ⟨r7, hj8, hm⟩ := bind_some hm
 refine wpL_cut (fun a w => ∃ x6 : Int, x6 = r7 ∧ Fr a 16 [(5, .int .i64 x6)] ∧ St [] W w []) ?_ ?_
 ·refine wpL_cond hf rfl (fun hb9 => ?_) (fun hb9 => ?_)
  ·have hj8 := bif_t hj8 hb9
   refine wpL_region ?_
   refine sY hf hs rfl rfl rfl (Y_move rfl rfl) ?_; clear hf; intro a hf
   refine sY hf hs rfl rfl rfl (Y_sub rfl rfl rfl) ?_; clear hf; intro a hf
   refine sY hf hs rfl rfl rfl (Y_assign rfl rfl) ?_; clear hf; intro a hf
   refine wpO_nil ?_
   refine wpL_nil (then_normal ?_)
   exact ⟨(IntKind.i64.wrap ((IntKind.i64.wrap (aK.tdiv aY)) - 1)), Option.some.inj hj8, (FrD.pick hf.none hf rfl), hs⟩
  ·have hj8 := bif_f hj8 hb9
   refine wpL_skip ?_
   refine wpL_nil (then_normal ?_)
   exact ⟨(IntKind.i64.wrap (aK.tdiv aY)), Option.some.inj hj8, (FrD.pick hf.none hf rfl), hs⟩
 ·rintro a w ⟨x6, hr_, hf, hs⟩
  subst hr_
  try dsimp only at hm
  refine wpL_seq <| wpL_region ?_
  refine sY hf hs rfl rfl rfl (Y_move rfl rfl) ?_; clear hf; intro a hf
  refine sY hf hs rfl rfl rfl (Y_assign rfl rfl) ?_; clear hf; intro a hf
  refine wpO_nil ?_
  obtain rfl := Option.some.inj hm
  refine wpL_ret (ret_tmp rfl hf rfl ?_)
  exact ⟨_, rfl, rfl, hs⟩

set_option maxRecDepth 100000 in
theorem spec_l01Ceil_ok (F : Nat) (aK : Int) (aY : Int) (r : Int) (W : World) (hm : spec_l01Ceil F aK aY = some r) :
  Calls Try.prog 216 [.int .i64 aK, .int .i64 aY].toArray W fun e w' => ∃ v, e = .returned v ∧ v = .int .i64 r ∧ St [] W w' [] := by
 unfold spec_l01Ceil at hm
 refine Calls.enter (N := 10) Try.func216 rfl rfl rfl (fun a hf => ?_)
 have hs := St.start W
 obtain ⟨w, hw_⟩ : ∃ w, w = W := ⟨W, rfl⟩
 clear hw_ w
 refine wpL_seq <| wpL_region ?_
 refine sY hf hs rfl rfl rfl (Y_assign rfl rfl) ?_; clear hf; intro a hf
 refine wpO_nil <| wpL_seq <| wpL_region ?_
 refine sY hf hs rfl rfl rfl (Y_move rfl rfl) ?_; clear hf; intro a hf
 refine sY hf hs rfl rfl rfl (Y_neg rfl rfl) ?_; clear hf; intro a hf
 refine sY hf hs rfl rfl rfl (Y_move rfl rfl) ?_; clear hf; intro a hf
 obtain ⟨r1, hc2, hm⟩ := bind_some hm
 refine sCall hf rfl rfl rfl rfl (cap := []) rfl rfl en224 (spec_l01Floor_ok F (IntKind.i64.wrap (0 - aK)) aY _ _ hc2) ?_; clear hf
 rintro _ w ⟨rfl, hs1⟩ a hf
 have hs : St _ W w [] := hs.ext hs1.below
 clear hs1
 refine sY hf hs rfl rfl rfl (Y_neg rfl rfl) ?_; clear hf; intro a hf
 refine sY hf hs rfl rfl rfl (Y_assign rfl rfl) ?_; clear hf; intro a hf
 refine wpO_nil ?_
 obtain rfl := Option.some.inj hm
 refine wpL_ret (ret_tmp rfl hf rfl ?_)
 exact ⟨_, rfl, rfl, hs⟩

set_option maxRecDepth 100000 in
theorem spec_LeastPeriod_ok (F : Nat) (ah : GEventGraph) (ag : Option Addr) (ax ai : Nat) (aB : ax = ah.Places.length) (r : Int × Int) (W : World) (hm : spec_LeastPeriod F ah = some r) (ay : Rd W ag ((recs GPlace.cells) ah.Places)) :
  Calls Try.prog 187 [.agg #[.int .i64 ah.Events, .slice ag ax ai]].toArray W fun e w' => ∃ v, e = .returned v ∧ v = .tuple #[.int .i64 r.1, .int .i64 r.2] ∧ St [] W w' [] := by
 subst aB
 unfold spec_LeastPeriod at hm
 refine Calls.enter (N := 32) Try.func187 rfl rfl rfl (fun a hf => ?_)
 have hs := St.start W
 obtain ⟨w, hw_⟩ : ∃ w, w = W := ⟨W, rfl⟩
 clear hw_ w
 refine wpL_seq <| wpL_region ?_
 refine sBox hf hs rfl rfl rfl rfl rfl (cs := [.int .i64 ah.Events, .slice ag ah.Places.length ai]) rfl ?_; clear hf hs; intro a w b1 hs hf
 have hs : St _ W w [_] := hs
 refine sY hf hs rfl rfl rfl (Y_assign rfl rfl) ?_; clear hf; intro a hf
 refine sY hf hs rfl rfl rfl (Y_assign rfl rfl) ?_; clear hf; intro a hf
 refine wpO_nil <| wpL_seq <| wpL_seq <| wpL_region ?_
 refine sY hf hs rfl rfl rfl (Y_load_blkS rfl rfl (i := 0) rfl ag55 ti55 rfl) ?_; clear hf; intro a hf
 obtain ⟨r2, hc3, hm⟩ := bind_some hm
 refine sCall hf rfl rfl rfl rfl (cap := []) rfl rfl en113 (spec_IsEventGraph_ok F ah ag ah.Places.length ai rfl _ _ hc3 (ay.at hs)) ?_; clear hf
 rintro _ w ⟨rfl, hs1⟩ a hf
 have hs : St _ W w [_] := hs.ext hs1.below
 clear hs1
 refine sY hf hs rfl rfl rfl (Y_not rfl rfl) ?_; clear hf; intro a hf
 refine wpO_nil ?_
 refine wpL_cond hf rfl (fun hb4 => ?_) (fun hb4 => ?_)
 ·have hm := bif_t hm hb4
  refine wpL_seq <| wpL_region ?_
  refine sY hf hs rfl rfl rfl (Y_assign rfl rfl) ?_; clear hf; intro a hf
  refine sY hf hs rfl rfl rfl (Y_assign rfl rfl) ?_; clear hf; intro a hf
  refine wpO_nil ?_
  obtain rfl := Option.some.inj hm
  refine wpL_ret (ret_tmp2 rfl hf rfl rfl ?_)
  exact ⟨_, rfl, rfl, hs.sel [] (by decide)⟩
 ·have hm := bif_f hm hb4
  refine wpL_skip <| wpL_seq <| wpL_region ?_
  refine sY hf hs rfl rfl rfl (Y_assign rfl rfl) ?_; clear hf; intro a hf
  refine wpO_nil <| wpL_seq ?_
  obtain ⟨r46, hl47, hm⟩ := bind_some hm
  refine wpL_block (fun a w => Sum.inr () = r46 ∧ Fr a 32 [] ∧ St [] W w []) ?_ ?_
  ·refine wpL_loop (fun n a w => ∃ x32 : Int, spec_LeastPeriod_L1 F ah n x32 = some r46 ∧ Fr a 32 [(1, .pointer (some ⟨b1, 0, none⟩)), (4, .int .i64 x32)] ∧ St [] W w [.blk b1 55 [.int .i64 ah.Events, .slice ag ah.Places.length ai]]) F ?_ ?_ ?_
   ·exact ⟨0, hl47, (FrD.pick (FrD.pick hf.none hf rfl) hf rfl), hs⟩
   ·rintro a w ⟨x32, h0_, -, -⟩; simp [spec_LeastPeriod_L1] at h0_
   ·rintro n49 a w ⟨x32, hm48, hf, hs⟩
    rw [spec_LeastPeriod_L1] at hm48
    refine wpL_seq <| wpL_seq <| wpL_region ?_
    refine sY hf hs rfl rfl rfl (Y_move rfl rfl) ?_; clear hf; intro a hf
    refine sY hf hs rfl rfl rfl (Y_leq rfl rfl rfl) ?_; clear hf; intro a hf
    refine wpO_nil ?_
    refine wpL_cond hf rfl (fun hb50 => ?_) (fun hb50 => ?_)
    ·have hm48 := bif_t hm48 hb50
     refine wpL_skip <| wpL_block0 <| wpL_seq <| wpL_region ?_
     refine sY hf hs rfl rfl rfl (Y_load_blkS rfl rfl (i := 0) rfl ag55 ti55 rfl) ?_; clear hf; intro a hf
     refine sY hf hs rfl rfl rfl (Y_move rfl rfl) ?_; clear hf; intro a hf
     refine sY hf hs rfl rfl rfl (Y_build (parts := [(0, .tmp 14), (1, .const (.int .i64 1))]) (vs := [.int .i64 x32, .int .i64 1]) rfl rfl (run_build (parts := [(0, .int .i64 x32), (1, .int .i64 1)]) (cells := [.int .i64 x32, .int .i64 1]) (places := #[(0, 1), (1, 1)]) ti129 Try.underlying129 (fun w => by simp [go_sem]) rfl)) ?_; clear hf; intro a hf
     obtain ⟨r51, hc52, hm48⟩ := bind_some hm48
     refine sCall hf rfl rfl rfl rfl (cap := []) rfl rfl en214 (spec_l15Over_ok F ah ag ah.Places.length ai rfl (GRatio.mk x32 1) 0 _ _ hc52 (ay.at hs)) ?_; clear hf
     rintro _ w ⟨A53, n54, c55, rfl, hn56, hs1⟩ a hf
     have hs : St _ W w [_, .row A53 n54 c55 2 1 (ints r51)] := hs.join hs1
     clear hs1
     refine sY hf hs rfl rfl rfl (Y_assign rfl rfl) ?_; clear hf; intro a hf
     refine wpO_nil <| wpL_seq <| wpL_seq <| wpL_region ?_
     refine sY hf hs rfl rfl rfl (Y_move rfl rfl) ?_; clear hf; intro a hf
     refine sY hf hs rfl rfl rfl (Y_lenH rfl rfl el28 hn56) ?_; clear hf; intro a hf
     refine sY hf hs rfl rfl rfl (Y_eql rfl rfl rfl) ?_; clear hf; intro a hf
     refine wpO_nil ?_
     refine wpL_cond hf rfl (fun hb57 => ?_) (fun hb57 => ?_)
     ·have hm48 := bif_t hm48 hb57
      refine wpL_seq <| wpL_region ?_
      refine sY hf hs rfl rfl rfl (Y_move rfl rfl) ?_; clear hf; intro a hf
      refine sY hf hs rfl rfl rfl (Y_assign rfl rfl) ?_; clear hf; intro a hf
      refine sY hf hs rfl rfl rfl (Y_assign rfl rfl) ?_; clear hf; intro a hf
      refine wpO_nil ?_
      obtain rfl := Option.some.inj hm48
      try dsimp only at hm
      obtain rfl := Option.some.inj hm
      refine wpL_ret (Qb_ret (Ql_ret (Qb_ret (ret_tmp2 rfl hf rfl rfl ?_))))
      exact ⟨_, rfl, rfl, hs.sel [] (by decide)⟩
     ·have hm48 := bif_f hm48 hb57
      refine wpL_skip <| wpL_seq <| wpL_region ?_
      refine sY hf hs rfl rfl rfl (Y_load_blkS rfl rfl (i := 0) rfl ag55 ti55 rfl) ?_; clear hf; intro a hf
      refine sY hf hs rfl rfl rfl (Y_move rfl rfl) ?_; clear hf; intro a hf
      obtain ⟨r58, hc59, hm48⟩ := bind_some hm48
      refine sCall hf rfl rfl rfl rfl (cap := []) rfl rfl en215 (spec_l15Sums_ok F ah ag ah.Places.length ai rfl r51 A53 n54 c55 hn56 _ _ hc59 (ay.at hs) (hs.rd (i := 1) rfl)) ?_; clear hf
      rintro _ w ⟨rfl, hs1⟩ a hf
      have hs : St _ W w [_, _] := hs.ext hs1.below
      clear hs1
      refine sY hf hs rfl rfl rfl (Y_move rfl rfl) ?_; clear hf; intro a hf
      refine sY hf hs rfl rfl rfl (Y_extract rfl rfl rfl) ?_; clear hf; intro a hf
      refine sY hf hs rfl rfl rfl (Y_extract rfl rfl rfl) ?_; clear hf; intro a hf
      refine sY hf hs rfl rfl rfl (Y_assign rfl rfl) ?_; clear hf; intro a hf
      refine sY hf hs rfl rfl rfl (Y_assign rfl rfl) ?_; clear hf; intro a hf
      refine wpO_nil <| wpL_seq <| wpL_seq <| wpL_region ?_
      refine sY hf hs rfl rfl rfl (Y_move rfl rfl) ?_; clear hf; intro a hf
      refine sY hf hs rfl rfl rfl (Y_eql rfl rfl rfl) ?_; clear hf; intro a hf
      refine wpO_nil ?_
      refine wpL_cond hf rfl (fun hb60 => ?_) (fun hb60 => ?_)
      ·have hm48 := bif_t hm48 hb60
       refine wpL_exit (Qb_exit_ne rfl (Ql_exit (Qb_exit ?_)))
       exact ⟨Option.some.inj hm48, hf.none, hs.sel [] (by decide)⟩
      ·have hm48 := bif_f hm48 hb60
       refine wpL_skip <| wpL_region ?_
       refine sY hf hs rfl rfl rfl (Y_move rfl rfl) ?_; clear hf; intro a hf
       refine sY hf hs rfl rfl rfl (Y_move rfl rfl) ?_; clear hf; intro a hf
       obtain ⟨r61, hc62, hm48⟩ := bind_some hm48
       refine sCall hf rfl rfl rfl rfl (cap := []) rfl rfl en216 (spec_l01Ceil_ok F r58.1 r58.2 _ _ hc62) ?_; clear hf
       rintro _ w ⟨rfl, hs1⟩ a hf
       have hs : St _ W w [_, _] := hs.ext hs1.below
       clear hs1
       refine sY hf hs rfl rfl rfl (Y_assign rfl rfl) ?_; clear hf; intro a hf
       refine wpO_nil ?_
       refine wpL_nil (Qb_normal ?_)
       refine wpL_nil (Ql_normal ?_)
       exact ⟨r61, hm48, (FrD.pick (FrD.pick hf.none hf rfl) hf rfl), hs.sel [0] (by decide)⟩
    ·have hm48 := bif_f hm48 hb50
     refine wpL_exit (Ql_exit (Qb_exit ?_))
     exact ⟨Option.some.inj hm48, hf.none, hs.sel [] (by decide)⟩
  ·rintro a w ⟨hr_, hf, hs⟩
   subst hr_
   try dsimp only at hm
   refine wpL_seq <| wpL_region ?_
   refine sY hf hs rfl rfl rfl (Y_assign rfl rfl) ?_; clear hf; intro a hf
   refine sY hf hs rfl rfl rfl (Y_assign rfl rfl) ?_; clear hf; intro a hf
   refine wpO_nil ?_
   obtain rfl := Option.some.inj hm
   refine wpL_ret (ret_tmp2 rfl hf rfl rfl ?_)
   exact ⟨_, rfl, rfl, hs⟩

set_option maxHeartbeats 2000000 in
set_option maxRecDepth 100000 in
theorem spec_l20DrawPeriod_ok (F : Nat) (aj : Nat) (ac : List Int) (aa : Option Addr) (aF ab : Nat) (bE : aF = ac.length) (al : Int) (ak : Int) (r : (GEventGraph × Int) × Int × Int) (W : World) (hm : spec_l20DrawPeriod F ac al ak = some r) (aG : KR (muL [.blk aj 149 [.slice aa aF ab, .int .i64 al, .int .i64 ak]]) W aa (bytes ac)) (hst : St (muL [.blk aj 149 [.slice aa aF ab, .int .i64 al, .int .i64 ak]]) W W [.blk aj 149 [.slice aa aF ab, .int .i64 al, .int .i64 ak]]) :
  Calls Try.prog 117 [.pointer (some ⟨aj, 0, none⟩)].toArray W fun e w' => ∃ v, e = .returned v ∧ ∃ A208, ∃ n209, ∃ c210, v = .tuple #[.agg #[.int .i64 r.1.1.Events, .slice A208 n209 c210], .int .i64 r.1.2] ∧ n209 = r.1.1.Places.length ∧ St (muL [.blk aj 149 [.slice aa aF ab, .int .i64 al, .int .i64 ak]]) W w' [.row A208 n209 c210 64 4 ((recs GPlace.cells) r.1.1.Places), .blk aj 149 [.slice aa aF ab, .int .i64 r.2.1, .int .i64 r.2.2]] := by
 subst bE
 unfold spec_l20DrawPeriod at hm
 refine Calls.enter (N := 59) Try.func117 rfl rfl rfl (fun a hf => ?_)
 have hs := hst
 obtain ⟨w, hw_⟩ : ∃ w, w = W := ⟨W, rfl⟩
 clear hw_ w
 refine wpL_seq <| wpL_region ?_
 refine sAlloc hf hs rfl rfl rfl rfl ti55 ?_; clear hf hs; intro a w b1 hs hf
 have hs : St _ W w [.blk aj 149 [.slice aa ac.length ab, .int .i64 al, .int .i64 ak], .blk b1 55 [.int .i64 0, .slice none 0 0]] := hs
 refine sY hf hs rfl rfl rfl (Y_assign rfl rfl) ?_; clear hf; intro a hf
 refine wpO_nil <| wpL_seq <| wpL_region ?_
 refine sY hf hs rfl rfl rfl (Y_move rfl rfl) ?_; clear hf; intro a hf
 obtain ⟨r2, hc3, hm⟩ := bind_some hm
 refine sCall hf rfl rfl rfl rfl (cap := []) rfl rfl en186 (spec_l15Draw_ok F aj ac aa ac.length ab rfl al ak _ _ hc3 (aG.pass hs [0]) (hs.sel [0] (by decide)).rebase) ?_; clear hf
 rintro _ w ⟨A4, n5, c6, rfl, hn7, hs1⟩ a hf
 have hs : St _ W w [_, .row A4 n5 c6 64 4 ((recs GPlace.cells) r2.1.Places), .blk aj 149 [.slice aa ac.length ab, .int .i64 r2.2.1, .int .i64 r2.2.2]] := St.mutTail (La := [_]) (Lb := [_]) (hs.sel [1, 0] (by decide)) hs1
 clear hs1
 refine sAlloc hf hs rfl rfl rfl rfl ti55 ?_; clear hf hs; intro a w b8 hs hf
 have hs : St _ W w [_, _, _, .blk b8 55 [.int .i64 0, .slice none 0 0]] := hs
 refine sStore (i := 3) (us := [.int .i64 r2.1.Events, .slice A4 n5 c6]) hf hs rfl rfl rfl rfl rfl rfl ti55 rfl rfl rfl (Nat.le_of_ble_eq_true rfl) rfl ?_; clear hs; intro w hs
 have hs : St _ W w [_, _, _, .blk b8 55 [.int .i64 r2.1.Events, .slice A4 n5 c6]] := hs
 refine wpO_nil <| wpL_seq <| wpL_seq <| wpL_region ?_
 refine sY hf hs rfl rfl rfl (Y_move rfl rfl) ?_; clear hf; intro a hf
 obtain ⟨r9, hc10, hm⟩ := bind_some hm
 refine sCall hf rfl rfl rfl rfl (cap := []) rfl rfl en93 (spec_l01Next_ok F aj ac aa ac.length ab rfl r2.2.1 r2.2.2 20 _ _ hc10 (aG.pass hs [2]) (hs.sel [2] (by decide)).rebase) ?_; clear hf
 rintro _ w ⟨rfl, hs1⟩ a hf
 have hs : St _ W w [_, _, _, .blk aj 149 [.slice aa ac.length ab, .int .i64 r9.2.1, .int .i64 r9.2.2]] := St.mutTail (La := [_, _, _]) (Lb := [_]) (hs.sel [0, 1, 3, 2] (by decide)) hs1
 clear hs1
 refine sY hf hs rfl rfl rfl (Y_eql rfl rfl rfl) ?_; clear hf; intro a hf
 refine wpO_nil ?_
 obtain ⟨r34, hj35, hm⟩ := bind_some hm
 refine wpL_cut (fun a w => ∃ x26 : Int, ∃ x27 : Int, ∃ x28 : Int, ∃ xs29 : List GPlace, ∃ A30, ∃ n31, ∃ c32, (x26, x27, x28, xs29) = r34 ∧ n31 = xs29.length ∧ Fr a 59 [(0, .pointer (some ⟨aj, 0, none⟩)), (2, .pointer (some ⟨b1, 0, none⟩)), (4, .pointer (some ⟨b8, 0, none⟩))] ∧ St (muL [.blk aj 149 [.slice aa ac.length ab, .int .i64 al, .int .i64 ak]]) W w [.blk aj 149 [.slice aa ac.length ab, .int .i64 x26, .int .i64 x27], .blk b1 55 [.int .i64 0, .slice none 0 0], .blk b8 55 [.int .i64 x28, .slice A30 n31 c32], .row A30 n31 c32 64 4 ((recs GPlace.cells) xs29)]) ?_ ?_
 ·refine wpL_cond hf rfl (fun hb36 => ?_) (fun hb36 => ?_)
  ·have hj35 := bif_t hj35 hb36
   refine wpL_seq <| wpL_region ?_
   refine sY hf hs rfl rfl rfl (Y_move rfl rfl) ?_; clear hf; intro a hf
   obtain ⟨r37, hc38, hj35⟩ := bind_some hj35
   refine sCall hf rfl rfl rfl rfl (cap := []) rfl rfl en171 (spec_l12Draw_ok F aj ac aa ac.length ab rfl r9.2.1 r9.2.2 _ _ hc38 (aG.pass hs [3]) (hs.sel [3] (by decide)).rebase) ?_; clear hf
   rintro _ w ⟨A39, n40, c41, rfl, hn42, hs1⟩ a hf
   have hs : St _ W w [_, _, _, .row A39 n40 c41 64 4 ((recs GPlace.cells) r37.1.Places), .blk aj 149 [.slice aa ac.length ab, .int .i64 r37.2.1, .int .i64 r37.2.2]] := St.mutTail (La := [_, _, _]) (Lb := [_]) (hs.sel [0, 1, 2, 3] (by decide)) hs1
   clear hs1
   refine sStore (i := 2) (us := [.int .i64 r37.1.Events, .slice A39 n40 c41]) hf hs rfl rfl rfl rfl rfl rfl ti55 rfl rfl rfl (Nat.le_of_ble_eq_true rfl) rfl ?_; clear hs; intro w hs
   have hs : St _ W w [_, _, .blk b8 55 [.int .i64 r37.1.Events, .slice A39 n40 c41], _, _] := hs
   refine wpO_nil <| wpL_seq ?_
   obtain ⟨r45, hj46, hj35⟩ := bind_some hj35
   refine wpL_cut (fun a w => ∃ b44 : Bool, b44 = r45 ∧ Fr a 59 [(0, .pointer (some ⟨aj, 0, none⟩)), (2, .pointer (some ⟨b1, 0, none⟩)), (4, .pointer (some ⟨b8, 0, none⟩)), (22, .bool b44)] ∧ St (muL [.blk aj 149 [.slice aa ac.length ab, .int .i64 al, .int .i64 ak]]) W w [.blk aj 149 [.slice aa ac.length ab, .int .i64 r37.2.1, .int .i64 r37.2.2], .blk b1 55 [.int .i64 0, .slice none 0 0], .blk b8 55 [.int .i64 r37.1.Events, .slice A39 n40 c41], .row A39 n40 c41 64 4 ((recs GPlace.cells) r37.1.Places)]) ?_ ?_
   ·refine wpL_region ?_
    refine sY hf hs rfl rfl rfl (Y_fieldAddr rfl rfl fo55_1) ?_; clear hf; intro a hf
    refine sY hf hs rfl rfl rfl (Y_load_blk rfl rfl (i := 2) rfl rfl ag53) ?_; clear hf; intro a hf
    refine sY hf hs rfl rfl rfl (Y_lenH rfl rfl el53 hn42) ?_; clear hf; intro a hf
    refine sY hf hs rfl rfl rfl (Y_gtr rfl rfl rfl) ?_; clear hf; intro a hf
    refine sY hf hs rfl rfl rfl (Y_move rfl rfl) ?_; clear hf; intro a hf
    refine bsplit (decide (20 < (r37.1.Places.length : Int))) (fun hb47 => ?_) (fun hb47 => ?_)
    ·have hj46 := bif_t hj46 hb47
     refine sYg hf hs rfl rfl rfl (congrArg (fun b => some (Value.bool b)) hb47) rfl rfl rfl (Y_fieldAddr rfl rfl fo55_0) ?_; clear hf; intro a hf
     refine sYg hf hs rfl rfl rfl (congrArg (fun b => some (Value.bool b)) hb47) rfl rfl rfl (Y_load_blk rfl rfl (i := 2) rfl rfl ag2) ?_; clear hf; intro a hf
     refine sYg hf hs rfl rfl rfl (congrArg (fun b => some (Value.bool b)) hb47) rfl rfl rfl (Y_gtr rfl rfl rfl) ?_; clear hf; intro a hf
     refine sY hf hs rfl rfl rfl (Y_pickT rfl (congrArg (fun b => some (Value.bool b)) hb47) rfl) ?_; clear hf; intro a hf
     refine wpO_nil ?_
     refine wpL_nil (then_normal ?_)
     exact ⟨(decide (2 < r37.1.Events)), Option.some.inj hj46, (FrD.pick (FrD.pick (FrD.pick (FrD.pick hf.none hf rfl) hf rfl) hf rfl) hf rfl), hs.sel [4, 0, 2, 3] (by decide)⟩
    ·have hj46 := bif_f hj46 hb47
     refine sNo hf rfl rfl rfl (congrArg (fun b => some (Value.bool b)) hb47) rfl rfl rfl ?_; clear hf; intro a hf
     refine sNo hf rfl rfl rfl (congrArg (fun b => some (Value.bool b)) hb47) rfl rfl rfl ?_; clear hf; intro a hf
     refine sNo hf rfl rfl rfl (congrArg (fun b => some (Value.bool b)) hb47) rfl rfl rfl ?_; clear hf; intro a hf
     refine sY hf hs rfl rfl rfl (Y_pickF rfl (congrArg (fun b => some (Value.bool b)) hb47) rfl) ?_; clear hf; intro a hf
     refine wpO_nil ?_
     refine wpL_nil (then_normal ?_)
     exact ⟨false, Option.some.inj hj46, (FrD.pick (FrD.pick (FrD.pick (FrD.pick hf.none hf rfl) hf rfl) hf rfl) hf rfl), hs.sel [4, 0, 2, 3] (by decide)⟩
   ·rintro a w ⟨b44, hr_, hf, hs⟩
    subst hr_
    try dsimp only at hj35
    refine wpL_cond hf rfl (fun hb48 => ?_) (fun hb48 => ?_)
    ·have hj35 := bif_t hj35 hb48
     refine wpL_region ?_
     refine sY hf hs rfl rfl rfl (Y_fieldAddr rfl rfl fo55_1) ?_; clear hf; intro a hf
     refine sY hf hs rfl rfl rfl (Y_load_blk rfl rfl (i := 2) rfl rfl ag53) ?_; clear hf; intro a hf
     obtain ⟨xs50, hk49, hj35⟩ := bind_some hj35
     refine sY hf hs rfl rfl rfl (Y_sliceH rfl rfl rfl (cutTo_some hk49).1 (leC hn42 (hs.capR (i := 3) rfl) hk49) el53 ti64) ?_; clear hf; intro a hf
     have hs := (St.cutRecs GPlace.len hs (i := 3) rfl hn42 hk49)
     have hs : St _ W _ [_, _, _, .row A39 (20 : Int).toNat c41 64 4 ((recs GPlace.cells) xs50)] := hs
     refine sY hf hs rfl rfl rfl (Y_fieldAddr rfl rfl fo55_1) ?_; clear hf; intro a hf
     refine sStore (i := 2) (us := [.slice A39 ((20 : Int).toNat) c41]) hf hs rfl rfl rfl rfl rfl rfl ti53 rfl rfl rfl (Nat.le_of_ble_eq_true rfl) rfl ?_; clear hs; intro w hs
     have hs : St _ W w [_, _, .blk b8 55 [.int .i64 r37.1.Events, .slice A39 ((20 : Int).toNat) c41], _] := hs
     refine wpO_nil ?_
     refine wpL_nil (then_normal ?_)
     exact ⟨r37.2.1, r37.2.2, r37.1.Events, xs50, A39, (20 : Int).toNat, c41, Option.some.inj hj35, (pre_len hk49), (FrD.pick (FrD.pick (FrD.pick hf.none hf rfl) hf rfl) hf rfl), hs⟩
    ·have hj35 := bif_f hj35 hb48
     refine wpL_skip ?_
     refine wpL_nil (then_normal ?_)
     exact ⟨r37.2.1, r37.2.2, r37.1.Events, r37.1.Places, A39, n40, c41, Option.some.inj hj35, hn42, (FrD.pick (FrD.pick (FrD.pick hf.none hf rfl) hf rfl) hf rfl), hs⟩
  ·have hj35 := bif_f hj35 hb36
   refine wpL_skip ?_
   refine wpL_nil (then_normal ?_)
   exact ⟨r9.2.1, r9.2.2, r2.1.Events, r2.1.Places, A4, n5, c6, Option.some.inj hj35, hn7, (FrD.pick (FrD.pick (FrD.pick hf.none hf rfl) hf rfl) hf rfl), hs.sel [3, 0, 2, 1] (by decide)⟩
 ·rintro a w ⟨x26, x27, x28, xs29, A30, n31, c32, hr_, hn33, hf, hs⟩
  subst hr_
  try dsimp only at hm
  refine wpL_seq <| wpL_region ?_
  refine sY hf hs rfl rfl rfl (Y_load_blkS rfl rfl (i := 2) rfl ag55 ti55 rfl) ?_; clear hf; intro a hf
  obtain ⟨r51, hc52, hm⟩ := bind_some hm
  refine sCall hf rfl rfl rfl rfl (cap := []) rfl rfl en187 (spec_LeastPeriod_ok F (GEventGraph.mk x28 xs29) A30 n31 c32 hn33 _ _ hc52 (hs.rd (i := 3) rfl)) ?_; clear hf
  rintro _ w ⟨rfl, hs1⟩ a hf
  have hs : St _ W w [_, _, _, _] := hs.ext hs1.below
  clear hs1
  refine sY hf hs rfl rfl rfl (Y_move rfl rfl) ?_; clear hf; intro a hf
  refine sY hf hs rfl rfl rfl (Y_extract rfl rfl rfl) ?_; clear hf; intro a hf
  refine sY hf hs rfl rfl rfl (Y_extract rfl rfl rfl) ?_; clear hf; intro a hf
  refine sY hf hs rfl rfl rfl (Y_assign rfl rfl) ?_; clear hf; intro a hf
  refine sY hf hs rfl rfl rfl (Y_assign rfl rfl) ?_; clear hf; intro a hf
  refine wpO_nil <| wpL_seq <| wpL_seq ?_
  obtain ⟨r59, hj60, hm⟩ := bind_some hm
  refine wpL_cut (fun a w => ∃ x56 : Int, ∃ x57 : Int, ∃ b58 : Bool, (x56, x57, b58) = r59 ∧ Fr a 59 [(0, .pointer (some ⟨aj, 0, none⟩)), (2, .pointer (some ⟨b1, 0, none⟩)), (4, .pointer (some ⟨b8, 0, none⟩)), (5, .int .i64 r51.1), (38, .bool b58)] ∧ St (muL [.blk aj 149 [.slice aa ac.length ab, .int .i64 al, .int .i64 ak]]) W w [.blk aj 149 [.slice aa ac.length ab, .int .i64 x56, .int .i64 x57], .blk b1 55 [.int .i64 0, .slice none 0 0], .blk b8 55 [.int .i64 x28, .slice A30 n31 c32], .row A30 n31 c32 64 4 ((recs GPlace.cells) xs29)]) ?_ ?_
  ·refine wpL_region ?_
   refine sY hf hs rfl rfl rfl (Y_move rfl rfl) ?_; clear hf; intro a hf
   refine sY hf hs rfl rfl rfl (Y_neq rfl rfl rfl) ?_; clear hf; intro a hf
   refine sY hf hs rfl rfl rfl (Y_move rfl rfl) ?_; clear hf; intro a hf
   refine bsplit (r51.2 != 0) (fun hb61 => ?_) (fun hb61 => ?_)
   ·have hj60 := bif_t hj60 hb61
    refine sNo hf rfl rfl rfl (congrArg (fun b => some (Value.bool b)) hb61) rfl rfl rfl ?_; clear hf; intro a hf
    refine sNo hf rfl rfl rfl (congrArg (fun b => some (Value.bool b)) hb61) rfl rfl rfl ?_; clear hf; intro a hf
    refine sNo hf rfl rfl rfl (congrArg (fun b => some (Value.bool b)) hb61) rfl rfl rfl ?_; clear hf; intro a hf
    refine sY hf hs rfl rfl rfl (Y_pickT rfl (congrArg (fun b => some (Value.bool b)) hb61) rfl) ?_; clear hf; intro a hf
    refine wpO_nil ?_
    refine wpL_nil (then_normal ?_)
    exact ⟨x26, x27, true, Option.some.inj hj60, (FrD.pick (FrD.pick (FrD.pick (FrD.pick (FrD.pick hf.none hf rfl) hf rfl) hf rfl) hf rfl) hf rfl), hs⟩
   ·have hj60 := bif_f hj60 hb61
    refine sYg hf hs rfl rfl rfl (congrArg (fun b => some (Value.bool b)) hb61) rfl rfl rfl (Y_move rfl rfl) ?_; clear hf; intro a hf
    obtain ⟨r62, hc63, hj60⟩ := bind_some hj60
    refine sCallg hf rfl rfl rfl (congrArg (fun b => some (Value.bool b)) hb61) rfl rfl rfl rfl (cap := []) rfl rfl en93 (spec_l01Next_ok F aj ac aa ac.length ab rfl x26 x27 4 _ _ hc63 (aG.pass hs [0]) (hs.sel [0] (by decide)).rebase) ?_; clear hf
    rintro _ w ⟨rfl, hs1⟩ a hf
    have hs : St _ W w [_, _, _, .blk aj 149 [.slice aa ac.length ab, .int .i64 r62.2.1, .int .i64 r62.2.2]] := St.mutTail (La := [_, _, _]) (Lb := [_]) (hs.sel [1, 2, 3, 0] (by decide)) hs1
    clear hs1
    refine sYg hf hs rfl rfl rfl (congrArg (fun b => some (Value.bool b)) hb61) rfl rfl rfl (Y_eql rfl rfl rfl) ?_; clear hf; intro a hf
    refine sY hf hs rfl rfl rfl (Y_pickF rfl (congrArg (fun b => some (Value.bool b)) hb61) rfl) ?_; clear hf; intro a hf
    refine wpO_nil ?_
    refine wpL_nil (then_normal ?_)
    exact ⟨r62.2.1, r62.2.2, (r62.1 == 0), Option.some.inj hj60, (FrD.pick (FrD.pick (FrD.pick (FrD.pick (FrD.pick hf.none hf rfl) hf rfl) hf rfl) hf rfl) hf rfl), hs.sel [3, 0, 1, 2] (by decide)⟩
  ·rintro a w ⟨x56, x57, b58, hr_, hf, hs⟩
   subst hr_
   try dsimp only at hm
   refine wpL_cond hf rfl (fun hb64 => ?_) (fun hb64 => ?_)
   ·have hm := bif_t hm hb64
    refine wpL_seq ?_
    obtain ⟨r138, hj139, hm⟩ := bind_some hm
    refine wpL_cut (fun a w => ∃ x129 : Int, ∃ x130 : Int, ∃ x131 : Int, ∃ xs132 : List GPlace, ∃ x137 : Int, ∃ A133, ∃ n134, ∃ c135, (x129, x130, x131, xs132, x137) = r138 ∧ n134 = xs132.length ∧ Fr a 59 [(2, .pointer (some ⟨b1, 0, none⟩)), (3, .int .i64 x137)] ∧ St (muL [.blk aj 149 [.slice aa ac.length ab, .int .i64 al, .int .i64 ak]]) W w [.blk aj 149 [.slice aa ac.length ab, .int .i64 x129, .int .i64 x130], .blk b1 55 [.int .i64 x131, .slice A133 n134 c135], .row A133 n134 c135 64 4 ((recs GPlace.cells) xs132)]) ?_ ?_
    ·refine wpL_drawM [.blk b1 55 [.int .i64 0, .slice none 0 0], .blk b8 55 [.int .i64 x28, .slice A30 n31 c32], .row A30 n31 c32 64 4 ((recs GPlace.cells) xs29)] [13] (by kernel_rfl) hs ?_; clear hs; intro w hs
     have hs0 : St _ W w [_, _, _] := hs.sel [1, 2, 3] (by decide)
     refine mY (i := 0) [[]] rfl (by kernel_rfl) (by kernel_rfl) hf hs0 rfl rfl rfl (Y_load_blkS rfl rfl (i := 1) rfl ag55 ti55 rfl) ?_; clear hf; intro a hf
     refine mYp (i := 1) rfl (by kernel_rfl) (by kernel_rfl) hf rfl rfl rfl (fun _ => Y_move rfl rfl) ?_; clear hf; intro a hf
     refine mYp (i := 2) rfl (by kernel_rfl) (by kernel_rfl) hf rfl rfl rfl (fun _ => Y_move rfl rfl) ?_; clear hf; intro a hf
     refine mYp (i := 4) rfl (by kernel_rfl) (by kernel_rfl) hf rfl rfl rfl (fun _ => Y_move rfl rfl) ?_; clear hf; intro a hf
     refine mYp (i := 6) rfl (by kernel_rfl) (by kernel_rfl) hf rfl rfl rfl (fun _ => Y_move rfl rfl) ?_; clear hf; intro a hf
     refine mYp (i := 8) rfl (by kernel_rfl) (by kernel_rfl) hf rfl rfl rfl (fun _ => Y_move rfl rfl) ?_; clear hf; intro a hf
     refine mRun2 (i := 3) (j := 9) rfl rfl (by kernel_rfl) ?_ ?_
     ·obtain ⟨r154, hc155, hj139⟩ := bind_some hj139
      refine sCall hf rfl rfl rfl rfl (cap := []) rfl rfl en93 (spec_l01Next_ok F aj ac aa ac.length ab rfl x56 x57 30 _ _ hc155 (aG.pass hs [0]) (hs.sel [0] (by decide)).rebase) ?_; clear hf
      rintro _ w ⟨rfl, hs1⟩ a hf
      have hs : St _ W w [_, _, _, .blk aj 149 [.slice aa ac.length ab, .int .i64 r154.2.1, .int .i64 r154.2.2]] := St.mutTail (La := [_, _, _]) (Lb := [_]) (hs.sel [1, 2, 3, 0] (by decide)) hs1
      clear hs1
      have hs0 : St _ W w [_, _, _] := hs.sel [0, 1, 2] (by decide)
      refine wpO_nil ⟨Or.inr (fun _ => hs0), ?_⟩
      refine mRun2 (i := 5) (j := 9) rfl rfl (by kernel_rfl) ?_ ?_
      ·obtain ⟨r156, hc157, hj139⟩ := bind_some hj139
       refine sCall hf rfl rfl rfl rfl (cap := []) rfl rfl en93 (spec_l01Next_ok F aj ac aa ac.length ab rfl r154.2.1 r154.2.2 30 _ _ hc157 (aG.pass hs [3]) (hs.sel [3] (by decide)).rebase) ?_; clear hf
       rintro _ w ⟨rfl, hs1⟩ a hf
       have hs : St _ W w [_, _, _, .blk aj 149 [.slice aa ac.length ab, .int .i64 r156.2.1, .int .i64 r156.2.2]] := St.mutTail (La := [_, _, _]) (Lb := [_]) (hs.sel [0, 1, 2, 3] (by decide)) hs1
       clear hs1
       have hs0 : St _ W w [_, _, _] := hs.sel [0, 1, 2] (by decide)
       refine wpO_nil ⟨Or.inr (fun _ => hs0), ?_⟩
       refine mRun2 (i := 7) (j := 9) rfl rfl (by kernel_rfl) ?_ ?_
       ·obtain ⟨r158, hc159, hj139⟩ := bind_some hj139
        refine sCall hf rfl rfl rfl rfl (cap := []) rfl rfl en93 (spec_l01Next_ok F aj ac aa ac.length ab rfl r156.2.1 r156.2.2 30 _ _ hc159 (aG.pass hs [3]) (hs.sel [3] (by decide)).rebase) ?_; clear hf
        rintro _ w ⟨rfl, hs1⟩ a hf
        have hs : St _ W w [_, _, _, .blk aj 149 [.slice aa ac.length ab, .int .i64 r158.2.1, .int .i64 r158.2.2]] := St.mutTail (La := [_, _, _]) (Lb := [_]) (hs.sel [0, 1, 2, 3] (by decide)) hs1
        clear hs1
        have hs0 : St _ W w [_, _, _] := hs.sel [0, 1, 2] (by decide)
        refine wpO_nil ⟨Or.inr (fun _ => hs0), ?_⟩
        refine mRun (i := 9) rfl (by kernel_rfl) ?_
        refine sBuildSlice (parts := [(0, .const (.int .i64 (-1))), (1, .const (.int .i64 0)), (2, .const (.int .i64 100000)), (3, .const (.int .i64 100001))]) (vs := [.int .i64 (-1), .int .i64 0, .int .i64 100000, .int .i64 100001]) (cells := [.int .i64 (-1), .int .i64 0, .int .i64 100000, .int .i64 100001]) hf hs rfl rfl rfl rfl rfl el28 ti2 rfl rfl rfl rfl ?_; clear hf hs; intro a w A160 hs hA161 hf
        have hs : St _ W w [_, _, _, _, .row A160 4 4 2 1 (ints ([(-1), 0, 100000, 100001]))] := hs
        have hs0 : St _ W w [_, _, _] := hs.sel [0, 1, 2] (by decide)
        refine wpO_nil ⟨Or.inr (fun _ => hs0), ?_⟩
        refine mRun (i := 10) rfl (by kernel_rfl) ?_
        obtain ⟨r162, hc163, hj139⟩ := bind_some hj139
        refine sCall hf rfl rfl rfl rfl (cap := []) rfl rfl en109 (spec_l01Pick_ok F aj ac aa ac.length ab rfl r158.2.1 r158.2.2 ([(-1), 0, 100000, 100001]) A160 4 4 rfl _ _ hc163 (aG.pass hs [3]) (hs.keepR (i := 4) rfl [3] (by decide)) (hs.sel [3] (by decide)).rebase) ?_; clear hf
        rintro _ w ⟨rfl, hs1⟩ a hf
        have hs : St _ W w [_, _, _, _, .blk aj 149 [.slice aa ac.length ab, .int .i64 r162.2.1, .int .i64 r162.2.2]] := St.mutTail (La := [_, _, _, _]) (Lb := [_]) (hs.sel [0, 1, 2, 4, 3] (by decide)) hs1
        clear hs1
        have hs0 : St _ W w [_, _, _] := hs.sel [0, 1, 2] (by decide)
        refine wpO_nil ⟨Or.inr (fun _ => hs0), ?_⟩
        refine mRun (i := 11) rfl (by kernel_rfl) ?_
        refine sBuildSlice (parts := [(0, .tmp 42), (1, .tmp 44), (2, .tmp 46), (3, .tmp 49)]) (vs := [.int .i64 r154.1, .int .i64 r156.1, .int .i64 r158.1, .int .i64 r162.1]) (cells := [.int .i64 r154.1, .int .i64 r156.1, .int .i64 r158.1, .int .i64 r162.1]) hf hs rfl rfl rfl rfl rfl el28 ti2 rfl rfl rfl rfl ?_; clear hf hs; intro a w A164 hs hA165 hf
        have hs : St _ W w [_, _, _, _, _, .row A164 4 4 2 1 (ints ([r154.1, r156.1, r158.1, r162.1]))] := hs
        have hs0 : St _ W w [_, _, _] := hs.sel [0, 1, 2] (by decide)
        refine wpO_nil ⟨Or.inr (fun _ => hs0), ?_⟩
        refine mRun (i := 12) rfl (by kernel_rfl) ?_
        obtain ⟨r166, hc167, hj139⟩ := bind_some hj139
        refine sCall hf rfl rfl rfl rfl (cap := []) rfl rfl en109 (spec_l01Pick_ok F aj ac aa ac.length ab rfl r162.2.1 r162.2.2 ([r154.1, r156.1, r158.1, r162.1]) A164 4 4 rfl _ _ hc167 (aG.pass hs [4]) (hs.keepR (i := 5) rfl [4] (by decide)) (hs.sel [4] (by decide)).rebase) ?_; clear hf
        rintro _ w ⟨rfl, hs1⟩ a hf
        have hs : St _ W w [_, _, _, _, _, .blk aj 149 [.slice aa ac.length ab, .int .i64 r166.2.1, .int .i64 r166.2.2]] := St.mutTail (La := [_, _, _, _, _]) (Lb := [_]) (hs.sel [0, 1, 2, 3, 5, 4] (by decide)) hs1
        clear hs1
        have hs0 : St _ W w [_, _, _] := hs.sel [0, 1, 2] (by decide)
        refine wpO_nil ⟨Or.inr (fun _ => hs0), ?_⟩
        refine mRun (i := 13) rfl (by kernel_rfl) ?_
        refine sStore (i := 0) (us := [.int .i64 x28, .slice A30 n31 c32]) hf hs rfl rfl rfl rfl rfl rfl ti55 rfl rfl rfl (Nat.le_of_ble_eq_true rfl) rfl ?_; clear hs; intro w hs
        have hs : St _ W w [.blk b1 55 [.int .i64 x28, .slice A30 n31 c32], _, _, _, _, _] := hs
        refine wpO_nil ⟨Or.inl (by decide), ?_⟩
        refine mYp (i := 14) rfl (by kernel_rfl) (by kernel_rfl) hf rfl rfl rfl (fun _ => Y_assign rfl rfl) ?_; clear hf; intro a hf
        refine mDone (by kernel_rfl) ?_
        clear hs0
        refine wpL_nil (then_normal ?_)
        exact ⟨r166.2.1, r166.2.2, x28, xs29, r166.1, A30, n31, c32, Option.some.inj hj139, hn33, (FrD.pick (FrD.pick hf.none hf rfl) hf rfl), hs.sel [5, 0, 2] (by decide)⟩
       ·refine sBuildSlice (parts := [(0, .const (.int .i64 (-1))), (1, .const (.int .i64 0)), (2, .const (.int .i64 100000)), (3, .const (.int .i64 100001))]) (vs := [.int .i64 (-1), .int .i64 0, .int .i64 100000, .int .i64 100001]) (cells := [.int .i64 (-1), .int .i64 0, .int .i64 100000, .int .i64 100001]) hf hs rfl rfl rfl rfl rfl el28 ti2 rfl rfl rfl rfl ?_; clear hf hs; intro a w A168 hs hA169 hf
        have hs : St _ W w [_, _, _, .blk aj 149 [.slice aa ac.length ab, .int .i64 r156.2.1, .int .i64 r156.2.2], .row A168 4 4 2 1 (ints ([(-1), 0, 100000, 100001]))] := hs
        have hs0 : St _ W w [_, _, _] := hs.sel [0, 1, 2] (by decide)
        refine wpO_nil ⟨Or.inr (fun _ => hs0), ?_⟩
        refine mRun (i := 7) rfl (by kernel_rfl) ?_
        obtain ⟨r170, hc171, hj139⟩ := bind_some hj139
        refine sCall hf rfl rfl rfl rfl (cap := []) rfl rfl en93 (spec_l01Next_ok F aj ac aa ac.length ab rfl r156.2.1 r156.2.2 30 _ _ hc171 (aG.pass hs [3]) (hs.sel [3] (by decide)).rebase) ?_; clear hf
        rintro _ w ⟨rfl, hs1⟩ a hf
        have hs : St _ W w [_, _, _, _, .blk aj 149 [.slice aa ac.length ab, .int .i64 r170.2.1, .int .i64 r170.2.2]] := St.mutTail (La := [_, _, _, _]) (Lb := [_]) (hs.sel [0, 1, 2, 4, 3] (by decide)) hs1
        clear hs1
        have hs0 : St _ W w [_, _, _] := hs.sel [0, 1, 2] (by decide)
        refine wpO_nil ⟨Or.inr (fun _ => hs0), ?_⟩
        refine mRun (i := 10) rfl (by kernel_rfl) ?_
        obtain ⟨r172, hc173, hj139⟩ := bind_some hj139
        refine sCall hf rfl rfl rfl rfl (cap := []) rfl rfl en109 (spec_l01Pick_ok F aj ac aa ac.length ab rfl r170.2.1 r170.2.2 ([(-1), 0, 100000, 100001]) A168 4 4 rfl _ _ hc173 (aG.pass hs [4]) (hs.keepR (i := 3) rfl [4] (by decide)) (hs.sel [4] (by decide)).rebase) ?_; clear hf
        rintro _ w ⟨rfl, hs1⟩ a hf
        have hs : St _ W w [_, _, _, _, .blk aj 149 [.slice aa ac.length ab, .int .i64 r172.2.1, .int .i64 r172.2.2]] := St.mutTail (La := [_, _, _, _]) (Lb := [_]) (hs.sel [0, 1, 2, 3, 4] (by decide)) hs1
        clear hs1
        have hs0 : St _ W w [_, _, _] := hs.sel [0, 1, 2] (by decide)
        refine wpO_nil ⟨Or.inr (fun _ => hs0), ?_⟩
        refine mRun (i := 11) rfl (by kernel_rfl) ?_
        refine sBuildSlice (parts := [(0, .tmp 42), (1, .tmp 44), (2, .tmp 46), (3, .tmp 49)]) (vs := [.int .i64 r154.1, .int .i64 r156.1, .int .i64 r170.1, .int .i64 r172.1]) (cells := [.int .i64 r154.1, .int .i64 r156.1, .int .i64 r170.1, .int .i64 r172.1]) hf hs rfl rfl rfl rfl rfl el28 ti2 rfl rfl rfl rfl ?_; clear hf hs; intro a w A174 hs hA175 hf
        have hs : St _ W w [_, _, _, _, _, .row A174 4 4 2 1 (ints ([r154.1, r156.1, r170.1, r172.1]))] := hs
        have hs0 : St _ W w [_, _, _] := hs.sel [0, 1, 2] (by decide)
        refine wpO_nil ⟨Or.inr (fun _ => hs0), ?_⟩
        refine mRun (i := 12) rfl (by kernel_rfl) ?_
        obtain ⟨r176, hc177, hj139⟩ := bind_some hj139
        refine sCall hf rfl rfl rfl rfl (cap := []) rfl rfl en109 (spec_l01Pick_ok F aj ac aa ac.length ab rfl r172.2.1 r172.2.2 ([r154.1, r156.1, r170.1, r172.1]) A174 4 4 rfl _ _ hc177 (aG.pass hs [4]) (hs.keepR (i := 5) rfl [4] (by decide)) (hs.sel [4] (by decide)).rebase) ?_; clear hf
        rintro _ w ⟨rfl, hs1⟩ a hf
        have hs : St _ W w [_, _, _, _, _, .blk aj 149 [.slice aa ac.length ab, .int .i64 r176.2.1, .int .i64 r176.2.2]] := St.mutTail (La := [_, _, _, _, _]) (Lb := [_]) (hs.sel [0, 1, 2, 3, 5, 4] (by decide)) hs1
        clear hs1
        have hs0 : St _ W w [_, _, _] := hs.sel [0, 1, 2] (by decide)
        refine wpO_nil ⟨Or.inr (fun _ => hs0), ?_⟩
        refine mRun (i := 13) rfl (by kernel_rfl) ?_
        refine sStore (i := 0) (us := [.int .i64 x28, .slice A30 n31 c32]) hf hs rfl rfl rfl rfl rfl rfl ti55 rfl rfl rfl (Nat.le_of_ble_eq_true rfl) rfl ?_; clear hs; intro w hs
        have hs : St _ W w [.blk b1 55 [.int .i64 x28, .slice A30 n31 c32], _, _, _, _, _] := hs
        refine wpO_nil ⟨Or.inl (by decide), ?_⟩
        refine mYp (i := 14) rfl (by kernel_rfl) (by kernel_rfl) hf rfl rfl rfl (fun _ => Y_assign rfl rfl) ?_; clear hf; intro a hf
        refine mDone (by kernel_rfl) ?_
        clear hs0
        refine wpL_nil (then_normal ?_)
        exact ⟨r176.2.1, r176.2.2, x28, xs29, r176.1, A30, n31, c32, Option.some.inj hj139, hn33, (FrD.pick (FrD.pick hf.none hf rfl) hf rfl), hs.sel [5, 0, 2] (by decide)⟩
      ·refine sBuildSlice (parts := [(0, .const (.int .i64 (-1))), (1, .const (.int .i64 0)), (2, .const (.int .i64 100000)), (3, .const (.int .i64 100001))]) (vs := [.int .i64 (-1), .int .i64 0, .int .i64 100000, .int .i64 100001]) (cells := [.int .i64 (-1), .int .i64 0, .int .i64 100000, .int .i64 100001]) hf hs rfl rfl rfl rfl rfl el28 ti2 rfl rfl rfl rfl ?_; clear hf hs; intro a w A178 hs hA179 hf
       have hs : St _ W w [_, _, _, .blk aj 149 [.slice aa ac.length ab, .int .i64 r154.2.1, .int .i64 r154.2.2], .row A178 4 4 2 1 (ints ([(-1), 0, 100000, 100001]))] := hs
       have hs0 : St _ W w [_, _, _] := hs.sel [0, 1, 2] (by decide)
       refine wpO_nil ⟨Or.inr (fun _ => hs0), ?_⟩
       refine mRun (i := 5) rfl (by kernel_rfl) ?_
       obtain ⟨r180, hc181, hj139⟩ := bind_some hj139
       refine sCall hf rfl rfl rfl rfl (cap := []) rfl rfl en93 (spec_l01Next_ok F aj ac aa ac.length ab rfl r154.2.1 r154.2.2 30 _ _ hc181 (aG.pass hs [3]) (hs.sel [3] (by decide)).rebase) ?_; clear hf
       rintro _ w ⟨rfl, hs1⟩ a hf
       have hs : St _ W w [_, _, _, _, .blk aj 149 [.slice aa ac.length ab, .int .i64 r180.2.1, .int .i64 r180.2.2]] := St.mutTail (La := [_, _, _, _]) (Lb := [_]) (hs.sel [0, 1, 2, 4, 3] (by decide)) hs1
       clear hs1
       have hs0 : St _ W w [_, _, _] := hs.sel [0, 1, 2] (by decide)
       refine wpO_nil ⟨Or.inr (fun _ => hs0), ?_⟩
       refine mRun (i := 7) rfl (by kernel_rfl) ?_
       obtain ⟨r182, hc183, hj139⟩ := bind_some hj139
       refine sCall hf rfl rfl rfl rfl (cap := []) rfl rfl en93 (spec_l01Next_ok F aj ac aa ac.length ab rfl r180.2.1 r180.2.2 30 _ _ hc183 (aG.pass hs [4]) (hs.sel [4] (by decide)).rebase) ?_; clear hf
       rintro _ w ⟨rfl, hs1⟩ a hf
       have hs : St _ W w [_, _, _, _, .blk aj 149 [.slice aa ac.length ab, .int .i64 r182.2.1, .int .i64 r182.2.2]] := St.mutTail (La := [_, _, _, _]) (Lb := [_]) (hs.sel [0, 1, 2, 3, 4] (by decide)) hs1
       clear hs1
       have hs0 : St _ W w [_, _, _] := hs.sel [0, 1, 2] (by decide)
       refine wpO_nil ⟨Or.inr (fun _ => hs0), ?_⟩
       refine mRun (i := 10) rfl (by kernel_rfl) ?_
       obtain ⟨r184, hc185, hj139⟩ := bind_some hj139
       refine sCall hf rfl rfl rfl rfl (cap := []) rfl rfl en109 (spec_l01Pick_ok F aj ac aa ac.length ab rfl r182.2.1 r182.2.2 ([(-1), 0, 100000, 100001]) A178 4 4 rfl _ _ hc185 (aG.pass hs [4]) (hs.keepR (i := 3) rfl [4] (by decide)) (hs.sel [4] (by decide)).rebase) ?_; clear hf
       rintro _ w ⟨rfl, hs1⟩ a hf
       have hs : St _ W w [_, _, _, _, .blk aj 149 [.slice aa ac.length ab, .int .i64 r184.2.1, .int .i64 r184.2.2]] := St.mutTail (La := [_, _, _, _]) (Lb := [_]) (hs.sel [0, 1, 2, 3, 4] (by decide)) hs1
       clear hs1
       have hs0 : St _ W w [_, _, _] := hs.sel [0, 1, 2] (by decide)
       refine wpO_nil ⟨Or.inr (fun _ => hs0), ?_⟩
       refine mRun (i := 11) rfl (by kernel_rfl) ?_
       refine sBuildSlice (parts := [(0, .tmp 42), (1, .tmp 44), (2, .tmp 46), (3, .tmp 49)]) (vs := [.int .i64 r154.1, .int .i64 r180.1, .int .i64 r182.1, .int .i64 r184.1]) (cells := [.int .i64 r154.1, .int .i64 r180.1, .int .i64 r182.1, .int .i64 r184.1]) hf hs rfl rfl rfl rfl rfl el28 ti2 rfl rfl rfl rfl ?_; clear hf hs; intro a w A186 hs hA187 hf
       have hs : St _ W w [_, _, _, _, _, .row A186 4 4 2 1 (ints ([r154.1, r180.1, r182.1, r184.1]))] := hs
       have hs0 : St _ W w [_, _, _] := hs.sel [0, 1, 2] (by decide)
       refine wpO_nil ⟨Or.inr (fun _ => hs0), ?_⟩
       refine mRun (i := 12) rfl (by kernel_rfl) ?_
       obtain ⟨r188, hc189, hj139⟩ := bind_some hj139
       refine sCall hf rfl rfl rfl rfl (cap := []) rfl rfl en109 (spec_l01Pick_ok F aj ac aa ac.length ab rfl r184.2.1 r184.2.2 ([r154.1, r180.1, r182.1, r184.1]) A186 4 4 rfl _ _ hc189 (aG.pass hs [4]) (hs.keepR (i := 5) rfl [4] (by decide)) (hs.sel [4] (by decide)).rebase) ?_; clear hf
       rintro _ w ⟨rfl, hs1⟩ a hf
       have hs : St _ W w [_, _, _, _, _, .blk aj 149 [.slice aa ac.length ab, .int .i64 r188.2.1, .int .i64 r188.2.2]] := St.mutTail (La := [_, _, _, _, _]) (Lb := [_]) (hs.sel [0, 1, 2, 3, 5, 4] (by decide)) hs1
       clear hs1
       have hs0 : St _ W w [_, _, _] := hs.sel [0, 1, 2] (by decide)
       refine wpO_nil ⟨Or.inr (fun _ => hs0), ?_⟩
       refine mRun (i := 13) rfl (by kernel_rfl) ?_
       refine sStore (i := 0) (us := [.int .i64 x28, .slice A30 n31 c32]) hf hs rfl rfl rfl rfl rfl rfl ti55 rfl rfl rfl (Nat.le_of_ble_eq_true rfl) rfl ?_; clear hs; intro w hs
       have hs : St _ W w [.blk b1 55 [.int .i64 x28, .slice A30 n31 c32], _, _, _, _, _] := hs
       refine wpO_nil ⟨Or.inl (by decide), ?_⟩
       refine mYp (i := 14) rfl (by kernel_rfl) (by kernel_rfl) hf rfl rfl rfl (fun _ => Y_assign rfl rfl) ?_; clear hf; intro a hf
       refine mDone (by kernel_rfl) ?_
       clear hs0
       refine wpL_nil (then_normal ?_)
       exact ⟨r188.2.1, r188.2.2, x28, xs29, r188.1, A30, n31, c32, Option.some.inj hj139, hn33, (FrD.pick (FrD.pick hf.none hf rfl) hf rfl), hs.sel [5, 0, 2] (by decide)⟩
     ·refine sBuildSlice (parts := [(0, .const (.int .i64 (-1))), (1, .const (.int .i64 0)), (2, .const (.int .i64 100000)), (3, .const (.int .i64 100001))]) (vs := [.int .i64 (-1), .int .i64 0, .int .i64 100000, .int .i64 100001]) (cells := [.int .i64 (-1), .int .i64 0, .int .i64 100000, .int .i64 100001]) hf hs rfl rfl rfl rfl rfl el28 ti2 rfl rfl rfl rfl ?_; clear hf hs; intro a w A190 hs hA191 hf
      have hs : St _ W w [.blk aj 149 [.slice aa ac.length ab, .int .i64 x56, .int .i64 x57], _, _, _, .row A190 4 4 2 1 (ints ([(-1), 0, 100000, 100001]))] := hs
      have hs0 : St _ W w [_, _, _] := hs.sel [1, 2, 3] (by decide)
      refine wpO_nil ⟨Or.inr (fun _ => hs0), ?_⟩
      refine mRun (i := 3) rfl (by kernel_rfl) ?_
      obtain ⟨r192, hc193, hj139⟩ := bind_some hj139
      refine sCall hf rfl rfl rfl rfl (cap := []) rfl rfl en93 (spec_l01Next_ok F aj ac aa ac.length ab rfl x56 x57 30 _ _ hc193 (aG.pass hs [0]) (hs.sel [0] (by decide)).rebase) ?_; clear hf
      rintro _ w ⟨rfl, hs1⟩ a hf
      have hs : St _ W w [_, _, _, _, .blk aj 149 [.slice aa ac.length ab, .int .i64 r192.2.1, .int .i64 r192.2.2]] := St.mutTail (La := [_, _, _, _]) (Lb := [_]) (hs.sel [1, 2, 3, 4, 0] (by decide)) hs1
      clear hs1
      have hs0 : St _ W w [_, _, _] := hs.sel [0, 1, 2] (by decide)
      refine wpO_nil ⟨Or.inr (fun _ => hs0), ?_⟩
      refine mRun (i := 5) rfl (by kernel_rfl) ?_
      obtain ⟨r194, hc195, hj139⟩ := bind_some hj139
      refine sCall hf rfl rfl rfl rfl (cap := []) rfl rfl en93 (spec_l01Next_ok F aj ac aa ac.length ab rfl r192.2.1 r192.2.2 30 _ _ hc195 (aG.pass hs [4]) (hs.sel [4] (by decide)).rebase) ?_; clear hf
      rintro _ w ⟨rfl, hs1⟩ a hf
      have hs : St _ W w [_, _, _, _, .blk aj 149 [.slice aa ac.length ab, .int .i64 r194.2.1, .int .i64 r194.2.2]] := St.mutTail (La := [_, _, _, _]) (Lb := [_]) (hs.sel [0, 1, 2, 3, 4] (by decide)) hs1
      clear hs1
      have hs0 : St _ W w [_, _, _] := hs.sel [0, 1, 2] (by decide)
      refine wpO_nil ⟨Or.inr (fun _ => hs0), ?_⟩
      refine mRun (i := 7) rfl (by kernel_rfl) ?_
      obtain ⟨r196, hc197, hj139⟩ := bind_some hj139
      refine sCall hf rfl rfl rfl rfl (cap := []) rfl rfl en93 (spec_l01Next_ok F aj ac aa ac.length ab rfl r194.2.1 r194.2.2 30 _ _ hc197 (aG.pass hs [4]) (hs.sel [4] (by decide)).rebase) ?_; clear hf
      rintro _ w ⟨rfl, hs1⟩ a hf
      have hs : St _ W w [_, _, _, _, .blk aj 149 [.slice aa ac.length ab, .int .i64 r196.2.1, .int .i64 r196.2.2]] := St.mutTail (La := [_, _, _, _]) (Lb := [_]) (hs.sel [0, 1, 2, 3, 4] (by decide)) hs1
      clear hs1
      have hs0 : St _ W w [_, _, _] := hs.sel [0, 1, 2] (by decide)
      refine wpO_nil ⟨Or.inr (fun _ => hs0), ?_⟩
      refine mRun (i := 10) rfl (by kernel_rfl) ?_
      obtain ⟨r198, hc199, hj139⟩ := bind_some hj139
      refine sCall hf rfl rfl rfl rfl (cap := []) rfl rfl en109 (spec_l01Pick_ok F aj ac aa ac.length ab rfl r196.2.1 r196.2.2 ([(-1), 0, 100000, 100001]) A190 4 4 rfl _ _ hc199 (aG.pass hs [4]) (hs.keepR (i := 3) rfl [4] (by decide)) (hs.sel [4] (by decide)).rebase) ?_; clear hf
      rintro _ w ⟨rfl, hs1⟩ a hf
      have hs : St _ W w [_, _, _, _, .blk aj 149 [.slice aa ac.length ab, .int .i64 r198.2.1, .int .i64 r198.2.2]] := St.mutTail (La := [_, _, _, _]) (Lb := [_]) (hs.sel [0, 1, 2, 3, 4] (by decide)) hs1
      clear hs1
      have hs0 : St _ W w [_, _, _] := hs.sel [0, 1, 2] (by decide)
      refine wpO_nil ⟨Or.inr (fun _ => hs0), ?_⟩
      refine mRun (i := 11) rfl (by kernel_rfl) ?_
      refine sBuildSlice (parts := [(0, .tmp 42), (1, .tmp 44), (2, .tmp 46), (3, .tmp 49)]) (vs := [.int .i64 r192.1, .int .i64 r194.1, .int .i64 r196.1, .int .i64 r198.1]) (cells := [.int .i64 r192.1, .int .i64 r194.1, .int .i64 r196.1, .int .i64 r198.1]) hf hs rfl rfl rfl rfl rfl el28 ti2 rfl rfl rfl rfl ?_; clear hf hs; intro a w A200 hs hA201 hf
      have hs : St _ W w [_, _, _, _, _, .row A200 4 4 2 1 (ints ([r192.1, r194.1, r196.1, r198.1]))] := hs
      have hs0 : St _ W w [_, _, _] := hs.sel [0, 1, 2] (by decide)
      refine wpO_nil ⟨Or.inr (fun _ => hs0), ?_⟩
      refine mRun (i := 12) rfl (by kernel_rfl) ?_
      obtain ⟨r202, hc203, hj139⟩ := bind_some hj139
      refine sCall hf rfl rfl rfl rfl (cap := []) rfl rfl en109 (spec_l01Pick_ok F aj ac aa ac.length ab rfl r198.2.1 r198.2.2 ([r192.1, r194.1, r196.1, r198.1]) A200 4 4 rfl _ _ hc203 (aG.pass hs [4]) (hs.keepR (i := 5) rfl [4] (by decide)) (hs.sel [4] (by decide)).rebase) ?_; clear hf
      rintro _ w ⟨rfl, hs1⟩ a hf
      have hs : St _ W w [_, _, _, _, _, .blk aj 149 [.slice aa ac.length ab, .int .i64 r202.2.1, .int .i64 r202.2.2]] := St.mutTail (La := [_, _, _, _, _]) (Lb := [_]) (hs.sel [0, 1, 2, 3, 5, 4] (by decide)) hs1
      clear hs1
      have hs0 : St _ W w [_, _, _] := hs.sel [0, 1, 2] (by decide)
      refine wpO_nil ⟨Or.inr (fun _ => hs0), ?_⟩
      refine mRun (i := 13) rfl (by kernel_rfl) ?_
      refine sStore (i := 0) (us := [.int .i64 x28, .slice A30 n31 c32]) hf hs rfl rfl rfl rfl rfl rfl ti55 rfl rfl rfl (Nat.le_of_ble_eq_true rfl) rfl ?_; clear hs; intro w hs
      have hs : St _ W w [.blk b1 55 [.int .i64 x28, .slice A30 n31 c32], _, _, _, _, _] := hs
      refine wpO_nil ⟨Or.inl (by decide), ?_⟩
      refine mYp (i := 14) rfl (by kernel_rfl) (by kernel_rfl) hf rfl rfl rfl (fun _ => Y_assign rfl rfl) ?_; clear hf; intro a hf
      refine mDone (by kernel_rfl) ?_
      clear hs0
      refine wpL_nil (then_normal ?_)
      exact ⟨r202.2.1, r202.2.2, x28, xs29, r202.1, A30, n31, c32, Option.some.inj hj139, hn33, (FrD.pick (FrD.pick hf.none hf rfl) hf rfl), hs.sel [5, 0, 2] (by decide)⟩
    ·rintro a w ⟨x129, x130, x131, xs132, x137, A133, n134, c135, hr_, hn136, hf, hs⟩
     subst hr_
     try dsimp only at hm
     obtain rfl := Option.some.inj hm
     refine wpL_ret (ret_cell_tmp rfl hf rfl rfl hs (i := 1) rfl ag55 ti55 rfl ?_)
     exact ⟨_, rfl, A133, n134, c135, rfl, hn136, hs.sel [2, 0] (by decide)⟩
   ·have hm := bif_f hm hb64
    refine wpL_skip <| wpL_seq ?_
    refine wpL_drawM [.blk b1 55 [.int .i64 0, .slice none 0 0], .blk b8 55 [.int .i64 x28, .slice A30 n31 c32], .row A30 n31 c32 64 4 ((recs GPlace.cells) xs29)] [7] (by kernel_rfl) hs ?_; clear hs; intro w hs
    have hs0 : St _ W w [_, _, _] := hs.sel [1, 2, 3] (by decide)
    refine mY (i := 0) [[]] rfl (by kernel_rfl) (by kernel_rfl) hf hs0 rfl rfl rfl (Y_load_blkS rfl rfl (i := 1) rfl ag55 ti55 rfl) ?_; clear hf; intro a hf
    refine mYp (i := 1) rfl (by kernel_rfl) (by kernel_rfl) hf rfl rfl rfl (fun _ => Y_move rfl rfl) ?_; clear hf; intro a hf
    refine mYp (i := 2) rfl (by kernel_rfl) (by kernel_rfl) hf rfl rfl rfl (fun _ => Y_move rfl rfl) ?_; clear hf; intro a hf
    refine mRun (i := 3) rfl (by kernel_rfl) ?_
    obtain ⟨r206, hc207, hm⟩ := bind_some hm
    refine sCall hf rfl rfl rfl rfl (cap := []) rfl rfl en93 (spec_l01Next_ok F aj ac aa ac.length ab rfl x56 x57 4 _ _ hc207 (aG.pass hs [0]) (hs.sel [0] (by decide)).rebase) ?_; clear hf
    rintro _ w ⟨rfl, hs1⟩ a hf
    have hs : St _ W w [_, _, _, .blk aj 149 [.slice aa ac.length ab, .int .i64 r206.2.1, .int .i64 r206.2.2]] := St.mutTail (La := [_, _, _]) (Lb := [_]) (hs.sel [1, 2, 3, 0] (by decide)) hs1
    clear hs1
    have hs0 : St _ W w [_, _, _] := hs.sel [0, 1, 2] (by decide)
    refine wpO_nil ⟨Or.inr (fun _ => hs0), ?_⟩
    refine mYp (i := 4) rfl (by kernel_rfl) (by kernel_rfl) hf rfl rfl rfl (fun _ => Y_add rfl rfl rfl) ?_; clear hf; intro a hf
    refine mYp (i := 5) rfl (by kernel_rfl) (by kernel_rfl) hf rfl rfl rfl (fun _ => Y_sub rfl rfl rfl) ?_; clear hf; intro a hf
    refine mYp (i := 6) rfl (by kernel_rfl) (by kernel_rfl) hf rfl rfl rfl (fun _ => Y_max rfl rfl rfl) ?_; clear hf; intro a hf
    refine mRun (i := 7) rfl (by kernel_rfl) ?_
    refine sStore (i := 0) (us := [.int .i64 x28, .slice A30 n31 c32]) hf hs rfl rfl rfl rfl rfl rfl ti55 rfl rfl rfl (Nat.le_of_ble_eq_true rfl) rfl ?_; clear hs; intro w hs
    have hs : St _ W w [_, _, _, _] := hs
    refine wpO_nil ⟨Or.inl (by decide), ?_⟩
    refine mYp (i := 8) rfl (by kernel_rfl) (by kernel_rfl) hf rfl rfl rfl (fun _ => Y_assign rfl rfl) ?_; clear hf; intro a hf
    refine mDone (by kernel_rfl) ?_
    clear hs0
    obtain rfl := Option.some.inj hm
    refine wpL_ret (ret_cell_tmp rfl hf rfl rfl hs (i := 0) rfl ag55 ti55 rfl ?_)
    exact ⟨_, rfl, A30, n31, c32, rfl, hn33, hs.sel [2, 3] (by decide)⟩

set_option maxRecDepth 100000 in
theorem spec_l20Period_ok (F : Nat) (ah : GEventGraph) (ag : Option Addr) (ax ai : Nat) (aB : ax = ah.Places.length) (bt : Int) (r : Int) (W : World) (hm : spec_l20Period F ah bt = some r) (ay : Rd W ag ((recs GPlace.cells) ah.Places)) :
  Calls Try.prog 122 [.agg #[.int .i64 ah.Events, .slice ag ax ai], .int .i64 bt].toArray W fun e w' => ∃ v, e = .returned v ∧ v = .int .i64 r ∧ St [] W w' [] := by
 subst aB
 unfold spec_l20Period at hm
 refine Calls.enter (N := 13) Try.func122 rfl rfl rfl (fun a hf => ?_)
 have hs := St.start W
 obtain ⟨w, hw_⟩ : ∃ w, w = W := ⟨W, rfl⟩
 clear hw_ w
 refine wpL_seq <| wpL_region ?_
 refine sBox hf hs rfl rfl rfl rfl rfl (cs := [.int .i64 ah.Events, .slice ag ah.Places.length ai]) rfl ?_; clear hf hs; intro a w b1 hs hf
 have hs : St _ W w [.blk b1 55 [.int .i64 ah.Events, .slice ag ah.Places.length ai]] := hs
 refine sY hf hs rfl rfl rfl (Y_assign rfl rfl) ?_; clear hf; intro a hf
 refine wpO_nil <| wpL_seq <| wpL_block0 <| wpL_seq <| wpL_region ?_
 refine sY hf hs rfl rfl rfl (Y_load_blkS rfl rfl (i := 0) rfl ag55 ti55 rfl) ?_; clear hf; intro a hf
 obtain ⟨r2, hc3, hm⟩ := bind_some hm
 refine sCall hf rfl rfl rfl rfl (cap := []) rfl rfl en113 (spec_IsEventGraph_ok F ah ag ah.Places.length ai rfl _ _ hc3 (ay.at hs)) ?_; clear hf
 rintro _ w ⟨rfl, hs1⟩ a hf
 have hs : St _ W w [_] := hs.ext hs1.below
 clear hs1
 refine sY hf hs rfl rfl rfl (Y_not rfl rfl) ?_; clear hf; intro a hf
 refine sY hf hs rfl rfl rfl (Y_assign rfl rfl) ?_; clear hf; intro a hf
 refine wpO_nil ?_
 refine wpL_cond hf rfl (fun hb4 => ?_) (fun hb4 => ?_)
 ·have hm := bif_t hm hb4
  refine wpL_seq <| wpL_region ?_
  refine sY hf hs rfl rfl rfl (Y_assign rfl rfl) ?_; clear hf; intro a hf
  refine wpO_nil ?_
  obtain rfl := Option.some.inj hm
  refine wpL_ret (Qb_ret (ret_tmp rfl hf rfl ?_))
  exact ⟨_, rfl, rfl, hs.sel [] (by decide)⟩
 ·have hm := bif_f hm hb4
  refine wpL_seq <| wpL_region ?_
  refine sY hf hs rfl rfl rfl (Y_move rfl rfl) ?_; clear hf; intro a hf
  obtain ⟨r5, hc6, hm⟩ := bind_some hm
  refine sCall hf rfl rfl rfl rfl (cap := []) rfl rfl en77 (spec_l01In_ok F bt 0 100000 _ _ hc6) ?_; clear hf
  rintro _ w ⟨rfl, hs1⟩ a hf
  have hs : St _ W w [_] := hs.ext hs1.below
  clear hs1
  refine sY hf hs rfl rfl rfl (Y_not rfl rfl) ?_; clear hf; intro a hf
  refine sY hf hs rfl rfl rfl (Y_assign rfl rfl) ?_; clear hf; intro a hf
  refine wpO_nil ?_
  refine wpL_cond hf rfl (fun hb7 => ?_) (fun hb7 => ?_)
  ·have hm := bif_t hm hb7
   refine wpL_seq <| wpL_region ?_
   refine sY hf hs rfl rfl rfl (Y_assign rfl rfl) ?_; clear hf; intro a hf
   refine wpO_nil ?_
   obtain rfl := Option.some.inj hm
   refine wpL_ret (Qb_ret (ret_tmp rfl hf rfl ?_))
   exact ⟨_, rfl, rfl, hs.sel [] (by decide)⟩
  ·have hm := bif_f hm hb7
   refine wpL_skip ?_
   refine wpL_nil (Qb_normal ?_)
   refine wpL_seq <| wpL_region ?_
   refine sY hf hs rfl rfl rfl (Y_assign rfl rfl) ?_; clear hf; intro a hf
   refine wpO_nil ?_
   obtain rfl := Option.some.inj hm
   refine wpL_ret (ret_tmp rfl hf rfl ?_)
   exact ⟨_, rfl, rfl, hs.sel [] (by decide)⟩

set_option maxRecDepth 100000 in
theorem spec_l02Bottom_ok (F : Nat) (cM : Int) (cu : Int) (r : List (List Int)) (W : World) (hm : spec_l02Bottom F cM cu = some r) :
  Calls Try.prog 154 [.int .i64 cM, .int .i64 cu].toArray W fun e w' => ∃ v, e = .returned v ∧ ∃ A268, ∃ n269, ∃ c270, ∃ vs272, v = .slice A268 n269 c270 ∧ n269 = r.length ∧ St [] W w' [.mat A268 n269 c270 28 2 vs272 r] := by
 unfold spec_l02Bottom at hm
 refine Calls.enter (N := 29) Try.func154 rfl rfl rfl (fun a hf => ?_)
 have hs := St.start W
 obtain ⟨w, hw_⟩ : ∃ w, w = W := ⟨W, rfl⟩
 clear hw_ w
 refine wpL_seq <| wpL_region ?_
 refine sY hf hs rfl rfl rfl (Y_assign rfl rfl) ?_; clear hf; intro a hf
 refine wpO_nil <| wpL_seq <| wpL_region ?_
 refine sEmptyM 2 hf hs rfl rfl rfl rfl el40 ti28 rfl ?_; clear hf hs; intro a w A1 hs hf
 have hs : St _ W w [.mat A1 0 0 28 2 [] []] := hs
 refine sY hf hs rfl rfl rfl (Y_assign rfl rfl) ?_; clear hf; intro a hf
 refine wpO_nil <| wpL_seq <| wpL_seq <| wpL_region ?_
 refine sY hf hs rfl rfl rfl (Y_assign rfl rfl) ?_; clear hf; intro a hf
 refine wpO_nil ?_
 obtain ⟨r204, hl205, hm⟩ := bind_some hm
 refine wpL_block (fun a w => ∃ ms198 : List (List Int), ∃ A199, ∃ n200, ∃ c201, ∃ vs203, ms198 = r204 ∧ n200 = ms198.length ∧ Fr a 29 [(5, .slice A199 n200 c201)] ∧ St [] W w [.mat A199 n200 c201 28 2 vs203 ms198]) ?_ ?_
 ·refine wpL_loop (fun n a w => ∃ ms131 : List (List Int), ∃ x137 : Int, ∃ A132, ∃ n133, ∃ c134, ∃ vs136, spec_l02Bottom_L4 F cM cu n ms131 x137 = some r204 ∧ n133 = ms131.length ∧ Fr a 29 [(0, .int .i64 cM), (1, .int .i64 cu), (5, .slice A132 n133 c134), (6, .int .i64 x137)] ∧ St [] W w [.mat A132 n133 c134 28 2 vs136 ms131]) F ?_ ?_ ?_
  ·exact ⟨[], 0, A1, 0, 0, [], hl205, rfl, (FrD.pick (FrD.pick (FrD.pick (FrD.pick hf.none hf rfl) hf rfl) hf rfl) hf rfl), hs⟩
  ·rintro a w ⟨ms131, x137, A132, n133, c134, vs136, h0_, -, -, -⟩; simp [spec_l02Bottom_L4] at h0_
  ·rintro n207 a w ⟨ms131, x137, A132, n133, c134, vs136, hm206, hn135, hf, hs⟩
   rw [spec_l02Bottom_L4] at hm206
   refine wpL_seq <| wpL_seq <| wpL_region ?_
   refine sY hf hs rfl rfl rfl (Y_move rfl rfl) ?_; clear hf; intro a hf
   refine sY hf hs rfl rfl rfl (Y_move rfl rfl) ?_; clear hf; intro a hf
   refine sY hf hs rfl rfl rfl (Y_lss rfl rfl rfl) ?_; clear hf; intro a hf
   refine wpO_nil ?_
   refine wpL_cond hf rfl (fun hb208 => ?_) (fun hb208 => ?_)
   ·have hm206 := bif_t hm206 hb208
    refine wpL_skip <| wpL_seq <| wpL_block0 <| wpL_seq <| wpL_region ?_
    refine sEmpty hf hs rfl rfl rfl rfl el28 ti2 ?_; clear hf hs; intro a w A209 hs hf
    have hs : St _ W w [_, .row A209 0 0 2 1 (ints ([] : List Int))] := hs
    refine sY hf hs rfl rfl rfl (Y_assign rfl rfl) ?_; clear hf; intro a hf
    refine wpO_nil <| wpL_seq <| wpL_seq <| wpL_region ?_
    refine sY hf hs rfl rfl rfl (Y_assign rfl rfl) ?_; clear hf; intro a hf
    refine wpO_nil ?_
    obtain ⟨r249, hl250, hm206⟩ := bind_some hm206
    refine wpL_block (fun a w => ∃ xs244 : List Int, ∃ A245, ∃ n246, ∃ c247, xs244 = r249 ∧ n246 = xs244.length ∧ Fr a 29 [(0, .int .i64 cM), (1, .int .i64 cu), (5, .slice A132 n133 c134), (6, .int .i64 x137), (7, .slice A245 n246 c247)] ∧ St [] W w [.mat A132 n133 c134 28 2 vs136 ms131, .row A245 n246 c247 2 1 (ints xs244)]) ?_ ?_
    ·refine wpL_loop (fun n a w => ∃ xs231 : List Int, ∃ x236 : Int, ∃ A232, ∃ n233, ∃ c234, spec_l02Bottom_L5 F cu n xs231 x236 = some r249 ∧ n233 = xs231.length ∧ Fr a 29 [(0, .int .i64 cM), (1, .int .i64 cu), (5, .slice A132 n133 c134), (6, .int .i64 x137), (7, .slice A232 n233 c234), (8, .int .i64 x236)] ∧ St [] W w [.mat A132 n133 c134 28 2 vs136 ms131, .row A232 n233 c234 2 1 (ints xs231)]) F ?_ ?_ ?_
     ·exact ⟨([] : List Int), 0, A209, 0, 0, hl250, rfl, (FrD.pick (FrD.pick (FrD.pick (FrD.pick (FrD.pick (FrD.pick hf.none hf rfl) hf rfl) hf rfl) hf rfl) hf rfl) hf rfl), hs⟩
     ·rintro a w ⟨xs231, x236, A232, n233, c234, h0_, -, -, -⟩; simp [spec_l02Bottom_L5] at h0_
     ·rintro n252 a w ⟨xs231, x236, A232, n233, c234, hm251, hn235, hf, hs⟩
      rw [spec_l02Bottom_L5] at hm251
      refine wpL_seq <| wpL_seq <| wpL_region ?_
      refine sY hf hs rfl rfl rfl (Y_move rfl rfl) ?_; clear hf; intro a hf
      refine sY hf hs rfl rfl rfl (Y_move rfl rfl) ?_; clear hf; intro a hf
      refine sY hf hs rfl rfl rfl (Y_lss rfl rfl rfl) ?_; clear hf; intro a hf
      refine wpO_nil ?_
      refine wpL_cond hf rfl (fun hb253 => ?_) (fun hb253 => ?_)
      ·have hm251 := bif_t hm251 hb253
       refine wpL_skip <| wpL_seq <| wpL_block0 <| wpL_region ?_
       refine sY hf hs rfl rfl rfl (Y_move rfl rfl) ?_; clear hf; intro a hf
       refine sBuildSlice (parts := [(0, .const (.int .i64 (-1000000000000000)))]) (vs := [.int .i64 (-1000000000000000)]) (cells := [.int .i64 (-1000000000000000)]) hf hs rfl rfl rfl rfl rfl el28 ti2 rfl rfl rfl rfl ?_; clear hf hs; intro a w A254 hs hA255 hf
       have hs : St _ W w [_, _, .row A254 1 1 2 1 (ints ([(-1000000000000000)]))] := hs
       obtain ⟨xs258, ha259, hm251⟩ := bind_some hm251
       refine sAppendL (i := 1) (xs := xs231) (ys := [(-1000000000000000)]) (enc := ints) hf hs rfl rfl rfl rfl rfl rfl hn235 rfl rfl ha259 el28 ti2 rfl rfl rfl (hs.rd (i := 2) rfl) (Nat.succ_pos _) ints_len1 ints_append ints_one ?_; clear hf hs; intro a w A256 c257 hs hf
       have hs : St _ W w [_, .row A256 xs258.length c257 2 1 (ints xs258), _] := hs
       refine sY hf hs rfl rfl rfl (Y_assign rfl rfl) ?_; clear hf; intro a hf
       refine wpO_nil ?_
       refine wpL_nil (Qb_normal ?_)
       refine wpL_region ?_
       refine sY hf hs rfl rfl rfl (Y_move rfl rfl) ?_; clear hf; intro a hf
       refine sY hf hs rfl rfl rfl (Y_add rfl rfl rfl) ?_; clear hf; intro a hf
       refine sY hf hs rfl rfl rfl (Y_assign rfl rfl) ?_; clear hf; intro a hf
       refine wpO_nil ?_
       refine wpL_nil (Ql_normal ?_)
       exact ⟨xs258, (IntKind.i64.wrap (x236 + 1)), A256, xs258.length, c257, hm251, rfl, (FrD.pick (FrD.pick (FrD.pick (FrD.pick (FrD.pick (FrD.pick hf.none hf rfl) hf rfl) hf rfl) hf rfl) hf rfl) hf rfl), hs.sel [0, 1] (by decide)⟩
      ·have hm251 := bif_f hm251 hb253
       refine wpL_exit (Ql_exit (Qb_exit ?_))
       exact ⟨xs231, A232, n233, c234, Option.some.inj hm251, hn235, (FrD.pick (FrD.pick (FrD.pick (FrD.pick (FrD.pick hf.none hf rfl) hf rfl) hf rfl) hf rfl) hf rfl), hs⟩
    ·rintro a w ⟨xs244, A245, n246, c247, hr_, hn248, hf, hs⟩
     subst hr_
     try dsimp only at hm206
     refine wpL_region ?_
     refine sY hf hs rfl rfl rfl (Y_move rfl rfl) ?_; clear hf; intro a hf
     refine sY hf hs rfl rfl rfl (Y_move rfl rfl) ?_; clear hf; intro a hf
     refine sOneM (j := 1) hf hs rfl rfl rfl rfl rfl rfl hn248 el40 ti28 ?_; clear hf hs; intro a w A260 hs hf
     have hs : St _ W w [_, .mat A260 1 1 28 2 ([Value.slice A245 xs244.length c247]) ([xs244])] := hs
     obtain ⟨ms264, ha265, hm206⟩ := bind_some hm206
     refine sAppendM (i := 0) (j := 1) hf hs rfl rfl rfl rfl rfl rfl hn135 rfl (by decide) rfl rfl (by decide) ha265 el40 ti28 rfl ?_; clear hf hs; intro a w A262 c263 hs hf
     have hs : St _ W w [.mat A262 ms264.length c263 28 2 (vs136 ++ ([Value.slice A245 xs244.length c247])) ms264] := hs
     obtain ⟨hq266, hv267⟩ := hs.appended (i := 0) rfl ha265
     refine sY hf hs rfl rfl rfl (Y_assign rfl rfl) ?_; clear hf; intro a hf
     refine wpO_nil ?_
     refine wpL_nil (Qb_normal ?_)
     refine wpL_region ?_
     refine sY hf hs rfl rfl rfl (Y_move rfl rfl) ?_; clear hf; intro a hf
     refine sY hf hs rfl rfl rfl (Y_add rfl rfl rfl) ?_; clear hf; intro a hf
     refine sY hf hs rfl rfl rfl (Y_assign rfl rfl) ?_; clear hf; intro a hf
     refine wpO_nil ?_
     refine wpL_nil (Ql_normal ?_)
     exact ⟨ms264, (IntKind.i64.wrap (x137 + 1)), A262, ms264.length, c263, (vs136 ++ ([Value.slice A245 xs244.length c247])), hm206, rfl, (FrD.pick (FrD.pick (FrD.pick (FrD.pick hf.none hf rfl) hf rfl) hf rfl) hf rfl), hs⟩
   ·have hm206 := bif_f hm206 hb208
    refine wpL_exit (Ql_exit (Qb_exit ?_))
    exact ⟨ms131, A132, n133, c134, vs136, Option.some.inj hm206, hn135, (FrD.pick hf.none hf rfl), hs⟩
 ·rintro a w ⟨ms198, A199, n200, c201, vs203, hr_, hn202, hf, hs⟩
  subst hr_
  try dsimp only at hm
  refine wpL_seq <| wpL_region ?_
  refine sY hf hs rfl rfl rfl (Y_move rfl rfl) ?_; clear hf; intro a hf
  refine sY hf hs rfl rfl rfl (Y_assign rfl rfl) ?_; clear hf; intro a hf
  refine wpO_nil ?_
  obtain rfl := Option.some.inj hm
  refine wpL_ret (ret_tmp rfl hf rfl ?_)
  exact ⟨_, rfl, A199, n200, c201, vs203, rfl, hn202, hs⟩

set_option maxRecDepth 100000 in
theorem spec_l15Weights_ok (F : Nat) (ah : GEventGraph) (ag : Option Addr) (ax ai : Nat) (aB : ax = ah.Places.length) (bh : GRatio) (r : List (List Int)) (W : World) (hm : spec_l15Weights F ah bh = some r) (ay : Rd W ag ((recs GPlace.cells) ah.Places)) :
  Calls Try.prog 123 [.agg #[.int .i64 ah.Events, .slice ag ax ai], .agg #[.int .i64 bh.Num, .int .i64 bh.Den]].toArray W fun e w' => ∃ v, e = .returned v ∧ ∃ A118, ∃ n119, ∃ c120, ∃ vs122, v = .slice A118 n119 c120 ∧ n119 = r.length ∧ St [] W w' [.mat A118 n119 c120 28 2 vs122 r] := by
 subst aB
 unfold spec_l15Weights at hm
 refine Calls.enter (N := 55) Try.func123 rfl rfl rfl (fun a hf => ?_)
 have hs := St.start W
 obtain ⟨w, hw_⟩ : ∃ w, w = W := ⟨W, rfl⟩
 clear hw_ w
 refine wpL_seq <| wpL_region ?_
 refine sBox hf hs rfl rfl rfl rfl rfl (cs := [.int .i64 ah.Events, .slice ag ah.Places.length ai]) rfl ?_; clear hf hs; intro a w b1 hs hf
 have hs : St _ W w [.blk b1 55 [.int .i64 ah.Events, .slice ag ah.Places.length ai]] := hs
 refine sBox hf hs rfl rfl rfl rfl rfl (cs := [.int .i64 bh.Num, .int .i64 bh.Den]) rfl ?_; clear hf hs; intro a w b2 hs hf
 have hs : St _ W w [_, .blk b2 129 [.int .i64 bh.Num, .int .i64 bh.Den]] := hs
 refine sY hf hs rfl rfl rfl (Y_assign rfl rfl) ?_; clear hf; intro a hf
 refine wpO_nil <| wpL_seq <| wpL_region ?_
 refine sY hf hs rfl rfl rfl (Y_fieldAddr rfl rfl fo55_0) ?_; clear hf; intro a hf
 refine sY hf hs rfl rfl rfl (Y_load_blk rfl rfl (i := 0) rfl rfl ag2) ?_; clear hf; intro a hf
 refine sY hf hs rfl rfl rfl (Y_fieldAddr rfl rfl fo55_0) ?_; clear hf; intro a hf
 refine sY hf hs rfl rfl rfl (Y_load_blk rfl rfl (i := 0) rfl rfl ag2) ?_; clear hf; intro a hf
 obtain ⟨r3, hc4, hm⟩ := bind_some hm
 refine sCall hf rfl rfl rfl rfl (cap := []) rfl rfl en154 (spec_l02Bottom_ok F ah.Events ah.Events _ _ hc4) ?_; clear hf
 rintro _ w ⟨A5, n6, c7, vs9, rfl, hn8, hs1⟩ a hf
 have hs : St _ W w [_, _, .mat A5 n6 c7 28 2 vs9 r3] := hs.join hs1
 clear hs1
 refine sY hf hs rfl rfl rfl (Y_assign rfl rfl) ?_; clear hf; intro a hf
 refine wpO_nil <| wpL_seq <| wpL_seq <| wpL_region ?_
 refine sY hf hs rfl rfl rfl (Y_assign rfl rfl) ?_; clear hf; intro a hf
 refine wpO_nil ?_
 obtain ⟨r90, hl91, hm⟩ := bind_some hm
 refine wpL_block (fun a w => ∃ ms88 : List (List Int), ms88 = r90 ∧ n6 = ms88.length ∧ Fr a 55 [(5, .slice A5 n6 c7)] ∧ St [] W w [.mat A5 n6 c7 28 2 vs9 ms88]) ?_ ?_
 ·refine wpL_loop (fun n a w => ∃ ms61 : List (List Int), ∃ x63 : Int, spec_l15Weights_L1 F ah bh n ms61 x63 = some r90 ∧ n6 = ms61.length ∧ Fr a 55 [(2, .pointer (some ⟨b1, 0, none⟩)), (3, .pointer (some ⟨b2, 0, none⟩)), (5, .slice A5 n6 c7), (6, .int .i64 x63)] ∧ St [] W w [.blk b1 55 [.int .i64 ah.Events, .slice ag ah.Places.length ai], .blk b2 129 [.int .i64 bh.Num, .int .i64 bh.Den], .mat A5 n6 c7 28 2 vs9 ms61]) F ?_ ?_ ?_
  ·exact ⟨r3, 0, hl91, hn8, (FrD.pick (FrD.pick (FrD.pick (FrD.pick hf.none hf rfl) hf rfl) hf rfl) hf rfl), hs⟩
  ·rintro a w ⟨ms61, x63, h0_, -, -, -⟩; simp [spec_l15Weights_L1] at h0_
  ·rintro n93 a w ⟨ms61, x63, hm92, hn62, hf, hs⟩
   rw [spec_l15Weights_L1] at hm92
   refine wpL_seq <| wpL_seq <| wpL_region ?_
   refine sY hf hs rfl rfl rfl (Y_move rfl rfl) ?_; clear hf; intro a hf
   refine sY hf hs rfl rfl rfl (Y_fieldAddr rfl rfl fo55_1) ?_; clear hf; intro a hf
   refine sY hf hs rfl rfl rfl (Y_load_blk rfl rfl (i := 0) rfl rfl ag53) ?_; clear hf; intro a hf
   refine sY hf hs rfl rfl rfl (Y_lenH rfl rfl el53 rfl) ?_; clear hf; intro a hf
   refine sY hf hs rfl rfl rfl (Y_lss rfl rfl rfl) ?_; clear hf; intro a hf
   refine wpO_nil ?_
   refine wpL_cond hf rfl (fun hb94 => ?_) (fun hb94 => ?_)
   ·have hm92 := bif_t hm92 hb94
    refine wpL_skip <| wpL_seq <| wpL_block0 <| wpL_seq <| wpL_region ?_
    refine sY hf hs rfl rfl rfl (Y_fieldAddr rfl rfl fo55_1) ?_; clear hf; intro a hf
    refine sY hf hs rfl rfl rfl (Y_load_blk rfl rfl (i := 0) rfl rfl ag53) ?_; clear hf; intro a hf
    refine sY hf hs rfl rfl rfl (Y_move rfl rfl) ?_; clear hf; intro a hf
    obtain ⟨q95, hi96, hm92⟩ := bind_some hm92
    obtain ⟨hi96a, hi96b, hi96q⟩ := idx_some hi96
    refine sY hf hs rfl rfl rfl (Y_index rfl rfl rfl el53 ti64 (Rd.isAt (ay.at hs) (recs_at (s := 4) GPlace.len hi96q (j := 0) rfl)) hi96a hi96b) ?_; clear hf; intro a hf
    refine sY hf hs rfl rfl rfl (Y_load_rdS rfl rfl (us := [.int .i64 q95.From, .int .i64 q95.To, .int .i64 q95.Delay, .int .i64 q95.Tokens]) (fun w hs => ay.at hs) (fun j u hj => recs_at (s := 4) GPlace.len hi96q hj) (Nat.succ_pos _) ag64 ti64 rfl) ?_; clear hf; intro a hf
    refine sAlloc hf hs rfl rfl rfl rfl ti64 ?_; clear hf hs; intro a w b97 hs hf
    have hs : St _ W w [_, _, _, .blk b97 64 [.int .i64 0, .int .i64 0, .int .i64 0, .int .i64 0]] := hs
    refine sStore (i := 3) (us := [.int .i64 q95.From, .int .i64 q95.To, .int .i64 q95.Delay, .int .i64 q95.Tokens]) hf hs rfl rfl rfl rfl rfl rfl ti64 rfl rfl rfl (Nat.le_of_ble_eq_true rfl) rfl ?_; clear hs; intro w hs
    have hs : St _ W w [_, _, _, .blk b97 64 [.int .i64 q95.From, .int .i64 q95.To, .int .i64 q95.Delay, .int .i64 q95.Tokens]] := hs
    refine wpO_nil ?_
    refine wpL_drawM [.blk b1 55 [.int .i64 ah.Events, .slice ag ah.Places.length ai], .blk b2 129 [.int .i64 bh.Num, .int .i64 bh.Den], .mat A5 n6 c7 28 2 vs9 ms61, .blk b97 64 [.int .i64 q95.From, .int .i64 q95.To, .int .i64 q95.Delay, .int .i64 q95.Tokens]] [29] (by kernel_rfl) hs ?_; clear hs; intro w hs
    have hs0 : St _ W w [_, _, _, _] := hs
    refine mYp (i := 0) rfl (by kernel_rfl) (by kernel_rfl) hf rfl rfl rfl (fun _ => Y_move rfl rfl) ?_; clear hf; intro a hf
    refine mYp (i := 1) rfl (by kernel_rfl) (by kernel_rfl) hf rfl rfl rfl (fun _ => Y_fieldAddr rfl rfl fo64_1) ?_; clear hf; intro a hf
    refine mY (i := 2) [[]] rfl (by kernel_rfl) (by kernel_rfl) hf hs0 rfl rfl rfl (Y_load_blk rfl rfl (i := 3) rfl rfl ag2) ?_; clear hf; intro a hf
    obtain ⟨q98, hi99, hm92⟩ := bind_some hm92
    obtain ⟨hi99a, hi99b, hi99q⟩ := idx_some hi99
    obtain ⟨A100, c101, hv102⟩ := hs.matRow (i := 2) rfl hi99q
    refine mYp (i := 3) rfl (by kernel_rfl) (by kernel_rfl) hf rfl rfl rfl (fun _ => Y_index rfl rfl rfl el40 ti28 (Rd.isAt (hs.rdV (i := 2) rfl) hv102) hi99a (ltn hn62 hi99b)) ?_; clear hf; intro a hf
    refine mY (i := 4) [[]] rfl (by kernel_rfl) (by kernel_rfl) hf hs0 rfl rfl rfl (Y_load_rd rfl rfl (fun w hs => hs.rdV (i := 2) rfl) (at1 hv102) ag28) ?_; clear hf; intro a hf
    refine mYp (i := 5) rfl (by kernel_rfl) (by kernel_rfl) hf rfl rfl rfl (fun _ => Y_fieldAddr rfl rfl fo64_0) ?_; clear hf; intro a hf
    refine mY (i := 6) [[]] rfl (by kernel_rfl) (by kernel_rfl) hf hs0 rfl rfl rfl (Y_load_blk rfl rfl (i := 3) rfl rfl ag2) ?_; clear hf; intro a hf
    refine mYp (i := 7) rfl (by kernel_rfl) (by kernel_rfl) hf rfl rfl rfl (fun _ => Y_move rfl rfl) ?_; clear hf; intro a hf
    refine mYp (i := 8) rfl (by kernel_rfl) (by kernel_rfl) hf rfl rfl rfl (fun _ => Y_fieldAddr rfl rfl fo64_1) ?_; clear hf; intro a hf
    refine mY (i := 9) [[]] rfl (by kernel_rfl) (by kernel_rfl) hf hs0 rfl rfl rfl (Y_load_blk rfl rfl (i := 3) rfl rfl ag2) ?_; clear hf; intro a hf
    obtain ⟨q103, hi104, hm92⟩ := bind_some hm92
    obtain ⟨hi104a, hi104b, hi104q⟩ := idx_some hi104
    obtain ⟨A105, c106, hv107⟩ := hs.matRow (i := 2) rfl hi104q
    refine mYp (i := 10) rfl (by kernel_rfl) (by kernel_rfl) hf rfl rfl rfl (fun _ => Y_index rfl rfl rfl el40 ti28 (Rd.isAt (hs.rdV (i := 2) rfl) hv107) hi104a (ltn hn62 hi104b)) ?_; clear hf; intro a hf
    refine mY (i := 11) [[]] rfl (by kernel_rfl) (by kernel_rfl) hf hs0 rfl rfl rfl (Y_load_rd rfl rfl (fun w hs => hs.rdV (i := 2) rfl) (at1 hv107) ag28) ?_; clear hf; intro a hf
    refine mYp (i := 12) rfl (by kernel_rfl) (by kernel_rfl) hf rfl rfl rfl (fun _ => Y_fieldAddr rfl rfl fo64_0) ?_; clear hf; intro a hf
    refine mY (i := 13) [[]] rfl (by kernel_rfl) (by kernel_rfl) hf hs0 rfl rfl rfl (Y_load_blk rfl rfl (i := 3) rfl rfl ag2) ?_; clear hf; intro a hf
    obtain ⟨q108, hi109, hm92⟩ := bind_some hm92
    obtain ⟨hi109a, hi109b, hi109q⟩ := idx_some hi109
    refine mYp (i := 14) rfl (by kernel_rfl) (by kernel_rfl) hf rfl rfl rfl (fun _ => Y_index rfl rfl rfl el28 ti2 (Rd.isAt (hs.rdRow (i := 2) rfl ⟨hi104q, hv107⟩) (at1 (ints_at hi109q))) hi109a hi109b) ?_; clear hf; intro a hf
    refine mY (i := 15) [[]] rfl (by kernel_rfl) (by kernel_rfl) hf hs0 rfl rfl rfl (Y_load_rd rfl rfl (fun w hs => hs.rdRow (i := 2) rfl ⟨hi104q, hv107⟩) (at1 (ints_at hi109q)) ag2) ?_; clear hf; intro a hf
    refine mYp (i := 16) rfl (by kernel_rfl) (by kernel_rfl) hf rfl rfl rfl (fun _ => Y_fieldAddr rfl rfl fo129_1) ?_; clear hf; intro a hf
    refine mY (i := 17) [[]] rfl (by kernel_rfl) (by kernel_rfl) hf hs0 rfl rfl rfl (Y_load_blk rfl rfl (i := 1) rfl rfl ag2) ?_; clear hf; intro a hf
    refine mYp (i := 18) rfl (by kernel_rfl) (by kernel_rfl) hf rfl rfl rfl (fun _ => Y_fieldAddr rfl rfl fo64_2) ?_; clear hf; intro a hf
    refine mY (i := 19) [[]] rfl (by kernel_rfl) (by kernel_rfl) hf hs0 rfl rfl rfl (Y_load_blk rfl rfl (i := 3) rfl rfl ag2) ?_; clear hf; intro a hf
    refine mYp (i := 20) rfl (by kernel_rfl) (by kernel_rfl) hf rfl rfl rfl (fun _ => Y_mul rfl rfl rfl) ?_; clear hf; intro a hf
    refine mYp (i := 21) rfl (by kernel_rfl) (by kernel_rfl) hf rfl rfl rfl (fun _ => Y_fieldAddr rfl rfl fo129_0) ?_; clear hf; intro a hf
    refine mY (i := 22) [[]] rfl (by kernel_rfl) (by kernel_rfl) hf hs0 rfl rfl rfl (Y_load_blk rfl rfl (i := 1) rfl rfl ag2) ?_; clear hf; intro a hf
    refine mYp (i := 23) rfl (by kernel_rfl) (by kernel_rfl) hf rfl rfl rfl (fun _ => Y_fieldAddr rfl rfl fo64_3) ?_; clear hf; intro a hf
    refine mY (i := 24) [[]] rfl (by kernel_rfl) (by kernel_rfl) hf hs0 rfl rfl rfl (Y_load_blk rfl rfl (i := 3) rfl rfl ag2) ?_; clear hf; intro a hf
    refine mYp (i := 25) rfl (by kernel_rfl) (by kernel_rfl) hf rfl rfl rfl (fun _ => Y_mul rfl rfl rfl) ?_; clear hf; intro a hf
    refine mYp (i := 26) rfl (by kernel_rfl) (by kernel_rfl) hf rfl rfl rfl (fun _ => Y_sub rfl rfl rfl) ?_; clear hf; intro a hf
    refine mYp (i := 27) rfl (by kernel_rfl) (by kernel_rfl) hf rfl rfl rfl (fun _ => Y_max rfl rfl rfl) ?_; clear hf; intro a hf
    obtain ⟨q110, hi111, hm92⟩ := bind_some hm92
    obtain ⟨hi111a, hi111b, hi111q⟩ := idx_some hi111
    refine mYp (i := 28) rfl (by kernel_rfl) (by kernel_rfl) hf rfl rfl rfl (fun _ => Y_index rfl rfl rfl el28 ti2 (Rd.isAt (hs.rdRow (i := 2) rfl ⟨hi99q, hv102⟩) (at1 (ints_at hi111q))) hi111a hi111b) ?_; clear hf; intro a hf
    refine mRun (i := 29) rfl (by kernel_rfl) ?_
    obtain ⟨xs112, hu114, hm92⟩ := bind_some hm92
    obtain ⟨ms113, hu115, hm92⟩ := bind_some hm92
    refine sStoreM (i := 2) (k := q95.To) hf hs rfl rfl rfl rfl rfl rfl hi99q hv102 rfl hu114 hu115 ti2 ?_; clear hs; intro w hs
    obtain ⟨hq116, hv117⟩ := rowUpd hu114 hu115 hv102
    have hs : St _ W w [_, _, .mat A5 n6 c7 28 2 vs9 ms113, _] := hs
    refine wpO_nil ⟨Or.inl (by decide), ?_⟩
    refine mDone (by kernel_rfl) ?_
    clear hs0
    refine wpL_nil (Qb_normal ?_)
    refine wpL_region ?_
    refine sY hf hs rfl rfl rfl (Y_move rfl rfl) ?_; clear hf; intro a hf
    refine sY hf hs rfl rfl rfl (Y_add rfl rfl rfl) ?_; clear hf; intro a hf
    refine sY hf hs rfl rfl rfl (Y_assign rfl rfl) ?_; clear hf; intro a hf
    refine wpO_nil ?_
    refine wpL_nil (Ql_normal ?_)
    exact ⟨ms113, (IntKind.i64.wrap (x63 + 1)), hm92, ((hn62).trans (upd_len hu115).symm), (FrD.pick (FrD.pick (FrD.pick (FrD.pick hf.none hf rfl) hf rfl) hf rfl) hf rfl), hs.sel [0, 1, 2] (by decide)⟩
   ·have hm92 := bif_f hm92 hb94
    refine wpL_exit (Ql_exit (Qb_exit ?_))
    exact ⟨ms61, Option.some.inj hm92, hn62, (FrD.pick hf.none hf rfl), hs.sel [2] (by decide)⟩
 ·rintro a w ⟨ms88, hr_, hn89, hf, hs⟩
  subst hr_
  try dsimp only at hm
  refine wpL_seq <| wpL_region ?_
  refine sY hf hs rfl rfl rfl (Y_move rfl rfl) ?_; clear hf; intro a hf
  refine sY hf hs rfl rfl rfl (Y_assign rfl rfl) ?_; clear hf; intro a hf
  refine wpO_nil ?_
  obtain rfl := Option.some.inj hm
  refine wpL_ret (ret_tmp rfl hf rfl ?_)
  exact ⟨_, rfl, A5, n6, c7, vs9, rfl, hn89, hs⟩

set_option maxRecDepth 100000 in
theorem spec_l02Unit_ok (F : Nat) (ci : Int) (r : List (List Int)) (W : World) (hm : spec_l02Unit F ci = some r) :
  Calls Try.prog 150 [.int .i64 ci].toArray W fun e w' => ∃ v, e = .returned v ∧ ∃ A76, ∃ n77, ∃ c78, ∃ vs80, v = .slice A76 n77 c78 ∧ n77 = r.length ∧ St [] W w' [.mat A76 n77 c78 28 2 vs80 r] := by
 unfold spec_l02Unit at hm
 refine Calls.enter (N := 20) Try.func150 rfl rfl rfl (fun a hf => ?_)
 have hs := St.start W
 obtain ⟨w, hw_⟩ : ∃ w, w = W := ⟨W, rfl⟩
 clear hw_ w
 refine wpL_seq <| wpL_region ?_
 refine sY hf hs rfl rfl rfl (Y_assign rfl rfl) ?_; clear hf; intro a hf
 refine wpO_nil <| wpL_seq <| wpL_region ?_
 refine sY hf hs rfl rfl rfl (Y_move rfl rfl) ?_; clear hf; intro a hf
 refine sY hf hs rfl rfl rfl (Y_move rfl rfl) ?_; clear hf; intro a hf
 obtain ⟨r1, hc2, hm⟩ := bind_some hm
 refine sCall hf rfl rfl rfl rfl (cap := []) rfl rfl en154 (spec_l02Bottom_ok F ci ci _ _ hc2) ?_; clear hf
 rintro _ w ⟨A3, n4, c5, vs7, rfl, hn6, hs1⟩ a hf
 have hs : St _ W w [.mat A3 n4 c5 28 2 vs7 r1] := hs.join hs1
 clear hs1
 refine sY hf hs rfl rfl rfl (Y_assign rfl rfl) ?_; clear hf; intro a hf
 refine wpO_nil <| wpL_seq <| wpL_seq <| wpL_region ?_
 refine sY hf hs rfl rfl rfl (Y_assign rfl rfl) ?_; clear hf; intro a hf
 refine wpO_nil ?_
 obtain ⟨r58, hl59, hm⟩ := bind_some hm
 refine wpL_block (fun a w => ∃ ms56 : List (List Int), ms56 = r58 ∧ n4 = ms56.length ∧ Fr a 20 [(3, .slice A3 n4 c5)] ∧ St [] W w [.mat A3 n4 c5 28 2 vs7 ms56]) ?_ ?_
 ·refine wpL_loop (fun n a w => ∃ ms39 : List (List Int), ∃ x41 : Int, spec_l02Unit_L1 F ci n ms39 x41 = some r58 ∧ n4 = ms39.length ∧ Fr a 20 [(0, .int .i64 ci), (3, .slice A3 n4 c5), (4, .int .i64 x41)] ∧ St [] W w [.mat A3 n4 c5 28 2 vs7 ms39]) F ?_ ?_ ?_
  ·exact ⟨r1, 0, hl59, hn6, (FrD.pick (FrD.pick (FrD.pick hf.none hf rfl) hf rfl) hf rfl), hs⟩
  ·rintro a w ⟨ms39, x41, h0_, -, -, -⟩; simp [spec_l02Unit_L1] at h0_
  ·rintro n61 a w ⟨ms39, x41, hm60, hn40, hf, hs⟩
   rw [spec_l02Unit_L1] at hm60
   refine wpL_seq <| wpL_seq <| wpL_region ?_
   refine sY hf hs rfl rfl rfl (Y_move rfl rfl) ?_; clear hf; intro a hf
   refine sY hf hs rfl rfl rfl (Y_move rfl rfl) ?_; clear hf; intro a hf
   refine sY hf hs rfl rfl rfl (Y_lss rfl rfl rfl) ?_; clear hf; intro a hf
   refine wpO_nil ?_
   refine wpL_cond hf rfl (fun hb62 => ?_) (fun hb62 => ?_)
   ·have hm60 := bif_t hm60 hb62
    refine wpL_skip <| wpL_seq <| wpL_block0 <| wpL_region ?_
    refine sY hf hs rfl rfl rfl (Y_move rfl rfl) ?_; clear hf; intro a hf
    refine sY hf hs rfl rfl rfl (Y_move rfl rfl) ?_; clear hf; intro a hf
    obtain ⟨q63, hi64, hm60⟩ := bind_some hm60
    obtain ⟨hi64a, hi64b, hi64q⟩ := idx_some hi64
    obtain ⟨A65, c66, hv67⟩ := hs.matRow (i := 0) rfl hi64q
    refine sY hf hs rfl rfl rfl (Y_index rfl rfl rfl el40 ti28 (Rd.isAt (hs.rdV (i := 0) rfl) hv67) hi64a (ltn hn40 hi64b)) ?_; clear hf; intro a hf
    refine sY hf hs rfl rfl rfl (Y_load_rd rfl rfl (fun w hs => hs.rdV (i := 0) rfl) (at1 hv67) ag28) ?_; clear hf; intro a hf
    refine sY hf hs rfl rfl rfl (Y_move rfl rfl) ?_; clear hf; intro a hf
    obtain ⟨q68, hi69, hm60⟩ := bind_some hm60
    obtain ⟨hi69a, hi69b, hi69q⟩ := idx_some hi69
    refine sY hf hs rfl rfl rfl (Y_index rfl rfl rfl el28 ti2 (Rd.isAt (hs.rdRow (i := 0) rfl ⟨hi64q, hv67⟩) (at1 (ints_at hi69q))) hi69a hi69b) ?_; clear hf; intro a hf
    obtain ⟨xs70, hu72, hm60⟩ := bind_some hm60
    obtain ⟨ms71, hu73, hm60⟩ := bind_some hm60
    refine sStoreM (i := 0) (k := x41) hf hs rfl rfl rfl rfl rfl rfl hi64q hv67 rfl hu72 hu73 ti2 ?_; clear hs; intro w hs
    obtain ⟨hq74, hv75⟩ := rowUpd hu72 hu73 hv67
    have hs : St _ W w [.mat A3 n4 c5 28 2 vs7 ms71] := hs
    refine wpO_nil ?_
    refine wpL_nil (Qb_normal ?_)
    refine wpL_region ?_
    refine sY hf hs rfl rfl rfl (Y_move rfl rfl) ?_; clear hf; intro a hf
    refine sY hf hs rfl rfl rfl (Y_add rfl rfl rfl) ?_; clear hf; intro a hf
    refine sY hf hs rfl rfl rfl (Y_assign rfl rfl) ?_; clear hf; intro a hf
    refine wpO_nil ?_
    refine wpL_nil (Ql_normal ?_)
    exact ⟨ms71, (IntKind.i64.wrap (x41 + 1)), hm60, ((hn40).trans (upd_len hu73).symm), (FrD.pick (FrD.pick (FrD.pick hf.none hf rfl) hf rfl) hf rfl), hs⟩
   ·have hm60 := bif_f hm60 hb62
    refine wpL_exit (Ql_exit (Qb_exit ?_))
    exact ⟨ms39, Option.some.inj hm60, hn40, (FrD.pick hf.none hf rfl), hs⟩
 ·rintro a w ⟨ms56, hr_, hn57, hf, hs⟩
  subst hr_
  try dsimp only at hm
  refine wpL_seq <| wpL_region ?_
  refine sY hf hs rfl rfl rfl (Y_move rfl rfl) ?_; clear hf; intro a hf
  refine sY hf hs rfl rfl rfl (Y_assign rfl rfl) ?_; clear hf; intro a hf
  refine wpO_nil ?_
  obtain rfl := Option.some.inj hm
  refine wpL_ret (ret_tmp rfl hf rfl ?_)
  exact ⟨_, rfl, A3, n4, c5, vs7, rfl, hn57, hs⟩

set_option maxRecDepth 100000 in
theorem spec_l01Times_ok (F : Nat) (aK : Int) (aY : Int) (r : Int) (W : World) (hm : spec_l01Times F aK aY = some r) :
  Calls Try.prog 155 [.int .i64 aK, .int .i64 aY].toArray W fun e w' => ∃ v, e = .returned v ∧ v = .int .i64 r ∧ St [] W w' [] := by
 unfold spec_l01Times at hm
 refine Calls.enter (N := 14) Try.func155 rfl rfl rfl (fun a hf => ?_)
 have hs := St.start W
 obtain ⟨w, hw_⟩ : ∃ w, w = W := ⟨W, rfl⟩
 clear hw_ w
 refine wpL_seq <| wpL_region ?_
 refine sY hf hs rfl rfl rfl (Y_assign rfl rfl) ?_; clear hf; intro a hf
 refine wpO_nil <| wpL_seq <| wpL_seq ?_
 obtain ⟨r3, hj4, hm⟩ := bind_some hm
 refine wpL_cut (fun a w => ∃ b2 : Bool, b2 = r3 ∧ Fr a 14 [(0, .int .i64 aK), (1, .int .i64 aY), (10, .bool b2)] ∧ St [] W w []) ?_ ?_
 ·refine wpL_region ?_
  refine sY hf hs rfl rfl rfl (Y_move rfl rfl) ?_; clear hf; intro a hf
  refine sY hf hs rfl rfl rfl (Y_eql rfl rfl rfl) ?_; clear hf; intro a hf
  refine sY hf hs rfl rfl rfl (Y_move rfl rfl) ?_; clear hf; intro a hf
  refine bsplit (aK == (-1000000000000000)) (fun hb5 => ?_) (fun hb5 => ?_)
  ·have hj4 := bif_t hj4 hb5
   refine sNo hf rfl rfl rfl (congrArg (fun b => some (Value.bool b)) hb5) rfl rfl rfl ?_; clear hf; intro a hf
   refine sNo hf rfl rfl rfl (congrArg (fun b => some (Value.bool b)) hb5) rfl rfl rfl ?_; clear hf; intro a hf
   refine sY hf hs rfl rfl rfl (Y_pickT rfl (congrArg (fun b => some (Value.bool b)) hb5) rfl) ?_; clear hf; intro a hf
   refine wpO_nil ?_
   refine wpL_nil (then_normal ?_)
   exact ⟨true, Option.some.inj hj4, (FrD.pick (FrD.pick (FrD.pick hf.none hf rfl) hf rfl) hf rfl), hs⟩
  ·have hj4 := bif_f hj4 hb5
   refine sYg hf hs rfl rfl rfl (congrArg (fun b => some (Value.bool b)) hb5) rfl rfl rfl (Y_move rfl rfl) ?_; clear hf; intro a hf
   refine sYg hf hs rfl rfl rfl (congrArg (fun b => some (Value.bool b)) hb5) rfl rfl rfl (Y_eql rfl rfl rfl) ?_; clear hf; intro a hf
   refine sY hf hs rfl rfl rfl (Y_pickF rfl (congrArg (fun b => some (Value.bool b)) hb5) rfl) ?_; clear hf; intro a hf
   refine wpO_nil ?_
   refine wpL_nil (then_normal ?_)
   exact ⟨(aY == (-1000000000000000)), Option.some.inj hj4, (FrD.pick (FrD.pick (FrD.pick hf.none hf rfl) hf rfl) hf rfl), hs⟩
 ·rintro a w ⟨b2, hr_, hf, hs⟩
  subst hr_
  try dsimp only at hm
  refine wpL_cond hf rfl (fun hb6 => ?_) (fun hb6 => ?_)
  ·have hm := bif_t hm hb6
   refine wpL_seq <| wpL_region ?_
   refine sY hf hs rfl rfl rfl (Y_assign rfl rfl) ?_; clear hf; intro a hf
   refine wpO_nil ?_
   obtain rfl := Option.some.inj hm
   refine wpL_ret (ret_tmp rfl hf rfl ?_)
   exact ⟨_, rfl, rfl, hs⟩
  ·have hm := bif_f hm hb6
   refine wpL_skip <| wpL_seq <| wpL_region ?_
   refine sY hf hs rfl rfl rfl (Y_move rfl rfl) ?_; clear hf; intro a hf
   refine sY hf hs rfl rfl rfl (Y_move rfl rfl) ?_; clear hf; intro a hf
   refine sY hf hs rfl rfl rfl (Y_add rfl rfl rfl) ?_; clear hf; intro a hf
   refine sY hf hs rfl rfl rfl (Y_assign rfl rfl) ?_; clear hf; intro a hf
   refine wpO_nil ?_
   obtain rfl := Option.some.inj hm
   refine wpL_ret (ret_tmp rfl hf rfl ?_)
   exact ⟨_, rfl, rfl, hs⟩

end Go.Proofs.Ytebmlphobgaboab
