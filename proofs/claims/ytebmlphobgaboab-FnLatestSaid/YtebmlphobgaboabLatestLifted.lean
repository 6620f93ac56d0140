/- The functions do what their models say. -/
import Derived.Test.YtebmlphobgaboabLatestLifted4
import Derived.Test.YtebmlphobgaboabRows
namespace Go.Proofs.Ytebmlphobgaboab
open Go.RowKit

set_option maxHeartbeats 2000000 in
set_option maxRecDepth 100000 in
theorem laws_FnLatest_ok (F : Nat) (p0 : List Int) (al : Option Addr) (aS am : Nat) (bC : aS = p0.length) (r : Bool) (W : World) (hm : laws_FnLatest F p0 = some r) (aP : Rd W al (bytes p0)) :
  Calls Try.prog 6 [.slice al aS am].toArray W fun e w' => ∃ v, e = .returned v ∧ v = .bool r ∧ St [] W w' [] := by
 subst bC
 unfold laws_FnLatest at hm
 refine Calls.enter (N := 219) Try.func6 rfl rfl rfl (fun a hf => ?_)
 have hs := St.start W
 obtain ⟨w, hw_⟩ : ∃ w, w = W := ⟨W, rfl⟩
 clear hw_ w
 refine wpL_seq <| wpL_region ?_
 refine sY hf hs rfl rfl rfl (Y_assign rfl rfl) ?_; clear hf; intro a hf
 refine wpO_nil <| wpL_seq <| wpL_seq <| wpL_region ?_
 refine sY hf hs rfl rfl rfl (Y_move rfl rfl) ?_; clear hf; intro a hf
 obtain ⟨r1, hc2, hm⟩ := bind_some hm
 refine sCall hf rfl rfl rfl rfl (cap := []) rfl rfl en9 (laws_big_ok F p0 al p0.length am rfl _ _ hc2 (aP.at hs)) ?_; clear hf
 rintro _ w ⟨rfl, hs1⟩ a hf
 have hs : St _ W w [] := hs.ext hs1.below
 clear hs1
 refine wpO_nil ?_
 refine wpL_cond hf rfl (fun hb3 => ?_) (fun hb3 => ?_)
 ·have hm := bif_t hm hb3
  refine wpL_seq <| wpL_region ?_
  refine sY hf hs rfl rfl rfl (Y_assign rfl rfl) ?_; clear hf; intro a hf
  refine wpO_nil ?_
  obtain rfl := Option.some.inj hm
  refine wpL_ret (ret_tmp rfl hf rfl ?_)
  exact ⟨_, rfl, rfl, hs⟩
 ·have hm := bif_f hm hb3
  refine wpL_skip <| wpL_seq <| wpL_region ?_
  refine sY hf hs rfl rfl rfl (Y_move rfl rfl) ?_; clear hf; intro a hf
  obtain ⟨r4, hc5, hm⟩ := bind_some hm
  refine sCall hf rfl rfl rfl rfl (cap := []) rfl rfl en41 (spec_DrawLatestTimes_ok F p0 al p0.length am rfl _ _ hc5 (aP.at hs)) ?_; clear hf
  rintro _ w ⟨A6, n7, c8, A10, n11, c12, vs14, rfl, hn9, hn13, hs1⟩ a hf
  have hs : St _ W w [.row A6 n7 c8 64 4 ((recs GPlace.cells) r4.1.Places), .mat A10 n11 c12 28 2 vs14 r4.2] := hs.join hs1
  clear hs1
  refine sY hf hs rfl rfl rfl (Y_move rfl rfl) ?_; clear hf; intro a hf
  refine sY hf hs rfl rfl rfl (Y_extract rfl rfl rfl) ?_; clear hf; intro a hf
  refine sY hf hs rfl rfl rfl (Y_extract rfl rfl rfl) ?_; clear hf; intro a hf
  refine sAlloc hf hs rfl rfl rfl rfl ti55 ?_; clear hf hs; intro a w b15 hs hf
  have hs : St _ W w [_, _, .blk b15 55 [.int .i64 0, .slice none 0 0]] := hs
  refine sStore (i := 2) (us := [.int .i64 r4.1.Events, .slice A6 n7 c8]) hf hs rfl rfl rfl rfl rfl rfl ti55 rfl rfl rfl (Nat.le_of_ble_eq_true rfl) rfl ?_; clear hs; intro w hs
  have hs : St _ W w [_, _, .blk b15 55 [.int .i64 r4.1.Events, .slice A6 n7 c8]] := hs
  refine sY hf hs rfl rfl rfl (Y_assign rfl rfl) ?_; clear hf; intro a hf
  refine wpO_nil <| wpL_seq <| wpL_region ?_
  refine sY hf hs rfl rfl rfl (Y_load_blkS rfl rfl (i := 2) rfl ag55 ti55 rfl) ?_; clear hf; intro a hf
  refine sY hf hs rfl rfl rfl (Y_move rfl rfl) ?_; clear hf; intro a hf
  obtain ⟨r16, hc17, hm⟩ := bind_some hm
  refine sCall hf rfl rfl rfl rfl (cap := []) rfl rfl en42 (impl_LatestTimes_ok F (GEventGraph.mk r4.1.Events r4.1.Places) A6 n7 c8 hn9 r4.2 A10 n11 c12 hn13 _ _ hc17 (hs.rd (i := 0) rfl) (hs.rdM (i := 1) rfl)) ?_; clear hf
  rintro _ w ⟨A18, n19, c20, vs22, rfl, hn21, hs1⟩ a hf
  have hs : St _ W w [_, _, _, .mat A18 n19 c20 28 2 vs22 r16.1] := hs.join hs1
  clear hs1
  refine sY hf hs rfl rfl rfl (Y_move rfl rfl) ?_; clear hf; intro a hf
  refine sY hf hs rfl rfl rfl (Y_extract rfl rfl rfl) ?_; clear hf; intro a hf
  refine sY hf hs rfl rfl rfl (Y_extract rfl rfl rfl) ?_; clear hf; intro a hf
  refine sY hf hs rfl rfl rfl (Y_assign rfl rfl) ?_; clear hf; intro a hf
  refine sY hf hs rfl rfl rfl (Y_assign rfl rfl) ?_; clear hf; intro a hf
  refine wpO_nil <| wpL_seq <| wpL_region ?_
  refine sY hf hs rfl rfl rfl (Y_load_blkS rfl rfl (i := 2) rfl ag55 ti55 rfl) ?_; clear hf; intro a hf
  refine sY hf hs rfl rfl rfl (Y_move rfl rfl) ?_; clear hf; intro a hf
  obtain ⟨r23, hc24, hm⟩ := bind_some hm
  refine sCall hf rfl rfl rfl rfl (cap := []) rfl rfl en43 (spec_LatestTimes_ok F (GEventGraph.mk r4.1.Events r4.1.Places) A6 n7 c8 hn9 r4.2 A10 n11 c12 hn13 _ _ hc24 (hs.rd (i := 0) rfl) (hs.rdM (i := 1) rfl)) ?_; clear hf
  rintro _ w ⟨A25, n26, c27, vs29, rfl, hn28, hs1⟩ a hf
  have hs : St _ W w [_, _, _, _, .mat A25 n26 c27 28 2 vs29 r23.1] := hs.join hs1
  clear hs1
  refine sY hf hs rfl rfl rfl (Y_move rfl rfl) ?_; clear hf; intro a hf
  refine sY hf hs rfl rfl rfl (Y_extract rfl rfl rfl) ?_; clear hf; intro a hf
  refine sY hf hs rfl rfl rfl (Y_extract rfl rfl rfl) ?_; clear hf; intro a hf
  refine sY hf hs rfl rfl rfl (Y_assign rfl rfl) ?_; clear hf; intro a hf
  refine sY hf hs rfl rfl rfl (Y_assign rfl rfl) ?_; clear hf; intro a hf
  refine wpO_nil <| wpL_seq <| wpL_region ?_
  refine sY hf hs rfl rfl rfl (Y_load_blkS rfl rfl (i := 2) rfl ag55 ti55 rfl) ?_; clear hf; intro a hf
  refine sY hf hs rfl rfl rfl (Y_move rfl rfl) ?_; clear hf; intro a hf
  obtain ⟨r30, hc31, hm⟩ := bind_some hm
  refine sCall hf rfl rfl rfl rfl (cap := []) rfl rfl en44 (impl_FloatsOf_ok F (GEventGraph.mk r4.1.Events r4.1.Places) A6 n7 c8 hn9 r4.2 A10 n11 c12 hn13 _ _ hc31 (hs.rd (i := 0) rfl) (hs.rdM (i := 1) rfl)) ?_; clear hf
  rintro _ w ⟨A32, n33, c34, vs36, rfl, hn35, hs1⟩ a hf
  have hs : St _ W w [_, _, _, _, _, .mat A32 n33 c34 28 2 vs36 r30.1] := hs.join hs1
  clear hs1
  refine sY hf hs rfl rfl rfl (Y_move rfl rfl) ?_; clear hf; intro a hf
  refine sY hf hs rfl rfl rfl (Y_extract rfl rfl rfl) ?_; clear hf; intro a hf
  refine sY hf hs rfl rfl rfl (Y_extract rfl rfl rfl) ?_; clear hf; intro a hf
  refine sY hf hs rfl rfl rfl (Y_assign rfl rfl) ?_; clear hf; intro a hf
  refine sY hf hs rfl rfl rfl (Y_assign rfl rfl) ?_; clear hf; intro a hf
  refine wpO_nil <| wpL_seq <| wpL_region ?_
  refine sY hf hs rfl rfl rfl (Y_load_blkS rfl rfl (i := 2) rfl ag55 ti55 rfl) ?_; clear hf; intro a hf
  refine sY hf hs rfl rfl rfl (Y_move rfl rfl) ?_; clear hf; intro a hf
  obtain ⟨r37, hc38, hm⟩ := bind_some hm
  refine sCall hf rfl rfl rfl rfl (cap := []) rfl rfl en45 (spec_FloatsOf_ok F (GEventGraph.mk r4.1.Events r4.1.Places) A6 n7 c8 hn9 r4.2 A10 n11 c12 hn13 _ _ hc38 (hs.rd (i := 0) rfl) (hs.rdM (i := 1) rfl)) ?_; clear hf
  rintro _ w ⟨A39, n40, c41, vs43, rfl, hn42, hs1⟩ a hf
  have hs : St _ W w [_, _, _, _, _, _, .mat A39 n40 c41 28 2 vs43 r37.1] := hs.join hs1
  clear hs1
  refine sY hf hs rfl rfl rfl (Y_move rfl rfl) ?_; clear hf; intro a hf
  refine sY hf hs rfl rfl rfl (Y_extract rfl rfl rfl) ?_; clear hf; intro a hf
  refine sY hf hs rfl rfl rfl (Y_extract rfl rfl rfl) ?_; clear hf; intro a hf
  refine sY hf hs rfl rfl rfl (Y_assign rfl rfl) ?_; clear hf; intro a hf
  refine sY hf hs rfl rfl rfl (Y_assign rfl rfl) ?_; clear hf; intro a hf
  refine wpO_nil <| wpL_seq <| wpL_region ?_
  refine sY hf hs rfl rfl rfl (Y_move rfl rfl) ?_; clear hf; intro a hf
  obtain ⟨r44, hc45, hm⟩ := bind_some hm
  refine sCall hf rfl rfl rfl rfl (cap := []) rfl rfl en46 (spec_DrawDueOfLast_ok F p0 al p0.length am rfl _ _ hc45 (aP.at hs)) ?_; clear hf
  rintro _ w ⟨A46, n47, c48, A50, n51, c52, rfl, hn49, hn53, hs1⟩ a hf
  have hs : St _ W w [_, _, _, _, _, _, _, .row A46 n47 c48 64 4 ((recs GPlace.cells) r44.1.Places), .row A50 n51 c52 2 1 (ints r44.2.2)] := hs.join hs1
  clear hs1
  refine sY hf hs rfl rfl rfl (Y_move rfl rfl) ?_; clear hf; intro a hf
  refine sY hf hs rfl rfl rfl (Y_extract rfl rfl rfl) ?_; clear hf; intro a hf
  refine sY hf hs rfl rfl rfl (Y_extract rfl rfl rfl) ?_; clear hf; intro a hf
  refine sY hf hs rfl rfl rfl (Y_extract rfl rfl rfl) ?_; clear hf; intro a hf
  refine sAlloc hf hs rfl rfl rfl rfl ti55 ?_; clear hf hs; intro a w b54 hs hf
  have hs : St _ W w [_, _, _, _, _, _, _, _, _, .blk b54 55 [.int .i64 0, .slice none 0 0]] := hs
  refine sStore (i := 9) (us := [.int .i64 r44.1.Events, .slice A46 n47 c48]) hf hs rfl rfl rfl rfl rfl rfl ti55 rfl rfl rfl (Nat.le_of_ble_eq_true rfl) rfl ?_; clear hs; intro w hs
  have hs : St _ W w [_, _, _, _, _, _, _, _, _, .blk b54 55 [.int .i64 r44.1.Events, .slice A46 n47 c48]] := hs
  refine sY hf hs rfl rfl rfl (Y_assign rfl rfl) ?_; clear hf; intro a hf
  refine sY hf hs rfl rfl rfl (Y_assign rfl rfl) ?_; clear hf; intro a hf
  refine wpO_nil <| wpL_seq <| wpL_region ?_
  refine sY hf hs rfl rfl rfl (Y_load_blkS rfl rfl (i := 9) rfl ag55 ti55 rfl) ?_; clear hf; intro a hf
  refine sY hf hs rfl rfl rfl (Y_move rfl rfl) ?_; clear hf; intro a hf
  refine sY hf hs rfl rfl rfl (Y_move rfl rfl) ?_; clear hf; intro a hf
  obtain ⟨r55, hc56, hm⟩ := bind_some hm
  refine sCall hf rfl rfl rfl rfl (cap := []) rfl rfl en47 (impl_DueOfLast_ok F (GEventGraph.mk r44.1.Events r44.1.Places) A46 n47 c48 hn49 r44.2.1 r44.2.2 A50 n51 c52 hn53 _ _ hc56 (hs.rd (i := 7) rfl) (hs.rd (i := 8) rfl)) ?_; clear hf
  rintro _ w ⟨A57, n58, c59, vs61, rfl, hn60, hs1⟩ a hf
  have hs : St _ W w [_, _, _, _, _, _, _, _, _, _, .mat A57 n58 c59 28 2 vs61 r55.1] := hs.join hs1
  clear hs1
  refine sY hf hs rfl rfl rfl (Y_move rfl rfl) ?_; clear hf; intro a hf
  refine sY hf hs rfl rfl rfl (Y_extract rfl rfl rfl) ?_; clear hf; intro a hf
  refine sY hf hs rfl rfl rfl (Y_extract rfl rfl rfl) ?_; clear hf; intro a hf
  refine sY hf hs rfl rfl rfl (Y_assign rfl rfl) ?_; clear hf; intro a hf
  refine sY hf hs rfl rfl rfl (Y_assign rfl rfl) ?_; clear hf; intro a hf
  refine wpO_nil <| wpL_seq <| wpL_region ?_
  refine sY hf hs rfl rfl rfl (Y_load_blkS rfl rfl (i := 9) rfl ag55 ti55 rfl) ?_; clear hf; intro a hf
  refine sY hf hs rfl rfl rfl (Y_move rfl rfl) ?_; clear hf; intro a hf
  refine sY hf hs rfl rfl rfl (Y_move rfl rfl) ?_; clear hf; intro a hf
  obtain ⟨r62, hc63, hm⟩ := bind_some hm
  refine sCall hf rfl rfl rfl rfl (cap := []) rfl rfl en48 (spec_DueOfLast_ok F (GEventGraph.mk r44.1.Events r44.1.Places) A46 n47 c48 hn49 r44.2.1 r44.2.2 A50 n51 c52 hn53 _ _ hc63 (hs.rd (i := 7) rfl) (hs.rd (i := 8) rfl)) ?_; clear hf
  rintro _ w ⟨A64, n65, c66, vs68, rfl, hn67, hs1⟩ a hf
  have hs : St _ W w [_, _, _, _, _, _, _, _, _, _, _, .mat A64 n65 c66 28 2 vs68 r62.1] := hs.join hs1
  clear hs1
  refine sY hf hs rfl rfl rfl (Y_move rfl rfl) ?_; clear hf; intro a hf
  refine sY hf hs rfl rfl rfl (Y_extract rfl rfl rfl) ?_; clear hf; intro a hf
  refine sY hf hs rfl rfl rfl (Y_extract rfl rfl rfl) ?_; clear hf; intro a hf
  refine sY hf hs rfl rfl rfl (Y_assign rfl rfl) ?_; clear hf; intro a hf
  refine sY hf hs rfl rfl rfl (Y_assign rfl rfl) ?_; clear hf; intro a hf
  refine wpO_nil <| wpL_seq <| wpL_seq ?_
  obtain ⟨r82, hj83, hm⟩ := bind_some hm
  refine wpL_cut (fun a w => ∃ b81 : Bool, b81 = r82 ∧ Fr a 219 [(3, .pointer (some ⟨b15, 0, none⟩)), (4, .slice A10 n11 c12), (5, .slice A18 n19 c20), (6, .int .i64 r16.2), (9, .slice A32 n33 c34), (114, .bool b81)] ∧ St [] W w [.blk b15 55 [.int .i64 r4.1.Events, .slice A6 n7 c8], .row A6 n7 c8 64 4 ((recs GPlace.cells) r4.1.Places), .mat A10 n11 c12 28 2 vs14 r4.2, .mat A18 n19 c20 28 2 vs22 r16.1, .mat A32 n33 c34 28 2 vs36 r30.1]) ?_ ?_
  ·refine wpL_region ?_
   refine sY hf hs rfl rfl rfl (Y_move rfl rfl) ?_; clear hf; intro a hf
   refine sY hf hs rfl rfl rfl (Y_move rfl rfl) ?_; clear hf; intro a hf
   refine sY hf hs rfl rfl rfl (Y_neq rfl rfl rfl) ?_; clear hf; intro a hf
   refine sY hf hs rfl rfl rfl (Y_move rfl rfl) ?_; clear hf; intro a hf
   refine bsplit (r16.2 != r23.2) (fun hb84 => ?_) (fun hb84 => ?_)
   ·have hj83 := bif_t hj83 hb84
    refine sNo hf rfl rfl rfl (congrArg (fun b => some (Value.bool b)) hb84) rfl rfl rfl ?_; clear hf; intro a hf
    refine sNo hf rfl rfl rfl (congrArg (fun b => some (Value.bool b)) hb84) rfl rfl rfl ?_; clear hf; intro a hf
    refine sNo hf rfl rfl rfl (congrArg (fun b => some (Value.bool b)) hb84) rfl rfl rfl ?_; clear hf; intro a hf
    refine sNo hf rfl rfl rfl (congrArg (fun b => some (Value.bool b)) hb84) rfl rfl rfl ?_; clear hf; intro a hf
    refine sY hf hs rfl rfl rfl (Y_pickT rfl (congrArg (fun b => some (Value.bool b)) hb84) rfl) ?_; clear hf; intro a hf
    refine sY hf hs rfl rfl rfl (Y_move rfl rfl) ?_; clear hf; intro a hf
    refine sNo hf rfl rfl rfl rfl rfl rfl rfl ?_; clear hf; intro a hf
    refine sNo hf rfl rfl rfl rfl rfl rfl rfl ?_; clear hf; intro a hf
    refine sNo hf rfl rfl rfl rfl rfl rfl rfl ?_; clear hf; intro a hf
    refine sY hf hs rfl rfl rfl (Y_pickT rfl rfl rfl) ?_; clear hf; intro a hf
    refine sY hf hs rfl rfl rfl (Y_move rfl rfl) ?_; clear hf; intro a hf
    refine sNo hf rfl rfl rfl rfl rfl rfl rfl ?_; clear hf; intro a hf
    refine sNo hf rfl rfl rfl rfl rfl rfl rfl ?_; clear hf; intro a hf
    refine sNo hf rfl rfl rfl rfl rfl rfl rfl ?_; clear hf; intro a hf
    refine sNo hf rfl rfl rfl rfl rfl rfl rfl ?_; clear hf; intro a hf
    refine sY hf hs rfl rfl rfl (Y_pickT rfl rfl rfl) ?_; clear hf; intro a hf
    refine sY hf hs rfl rfl rfl (Y_move rfl rfl) ?_; clear hf; intro a hf
    refine sNo hf rfl rfl rfl rfl rfl rfl rfl ?_; clear hf; intro a hf
    refine sNo hf rfl rfl rfl rfl rfl rfl rfl ?_; clear hf; intro a hf
    refine sNo hf rfl rfl rfl rfl rfl rfl rfl ?_; clear hf; intro a hf
    refine sY hf hs rfl rfl rfl (Y_pickT rfl rfl rfl) ?_; clear hf; intro a hf
    refine sY hf hs rfl rfl rfl (Y_move rfl rfl) ?_; clear hf; intro a hf
    refine sNo hf rfl rfl rfl rfl rfl rfl rfl ?_; clear hf; intro a hf
    refine sNo hf rfl rfl rfl rfl rfl rfl rfl ?_; clear hf; intro a hf
    refine sNo hf rfl rfl rfl rfl rfl rfl rfl ?_; clear hf; intro a hf
    refine sY hf hs rfl rfl rfl (Y_pickT rfl rfl rfl) ?_; clear hf; intro a hf
    refine sY hf hs rfl rfl rfl (Y_move rfl rfl) ?_; clear hf; intro a hf
    refine sNo hf rfl rfl rfl rfl rfl rfl rfl ?_; clear hf; intro a hf
    refine sNo hf rfl rfl rfl rfl rfl rfl rfl ?_; clear hf; intro a hf
    refine sNo hf rfl rfl rfl rfl rfl rfl rfl ?_; clear hf; intro a hf
    refine sNo hf rfl rfl rfl rfl rfl rfl rfl ?_; clear hf; intro a hf
    refine sY hf hs rfl rfl rfl (Y_pickT rfl rfl rfl) ?_; clear hf; intro a hf
    refine wpO_nil ?_
    refine wpL_nil (then_normal ?_)
    exact ⟨true, Option.some.inj hj83, (FrD.pick (FrD.pick (FrD.pick (FrD.pick (FrD.pick (FrD.pick hf.none hf rfl) hf rfl) hf rfl) hf rfl) hf rfl) hf rfl), hs.sel [2, 0, 1, 3, 5] (by decide)⟩
   ·have hj83 := bif_f hj83 hb84
    refine sYg hf hs rfl rfl rfl (congrArg (fun b => some (Value.bool b)) hb84) rfl rfl rfl (Y_move rfl rfl) ?_; clear hf; intro a hf
    refine sYg hf hs rfl rfl rfl (congrArg (fun b => some (Value.bool b)) hb84) rfl rfl rfl (Y_move rfl rfl) ?_; clear hf; intro a hf
    obtain ⟨r85, hc86, hj83⟩ := bind_some hj83
    refine sCallg hf rfl rfl rfl (congrArg (fun b => some (Value.bool b)) hb84) rfl rfl rfl rfl (cap := []) rfl rfl en31 (laws_likeTables9_ok F r16.1 A18 n19 c20 hn21 r23.1 A25 n26 c27 hn28 _ _ hc86 (hs.rdM (i := 3) rfl) (hs.rdM (i := 4) rfl)) ?_; clear hf
    rintro _ w ⟨rfl, hs1⟩ a hf
    have hs : St _ W w [_, _, _, _, _, _, _, _, _, _, _, _] := hs.ext hs1.below
    clear hs1
    refine sYg hf hs rfl rfl rfl (congrArg (fun b => some (Value.bool b)) hb84) rfl rfl rfl (Y_not rfl rfl) ?_; clear hf; intro a hf
    refine sY hf hs rfl rfl rfl (Y_pickF rfl (congrArg (fun b => some (Value.bool b)) hb84) rfl) ?_; clear hf; intro a hf
    refine sY hf hs rfl rfl rfl (Y_move rfl rfl) ?_; clear hf; intro a hf
    refine bsplit (!r85) (fun hb87 => ?_) (fun hb87 => ?_)
    ·have hj83 := bif_t hj83 hb87
     refine sNo hf rfl rfl rfl (congrArg (fun b => some (Value.bool b)) hb87) rfl rfl rfl ?_; clear hf; intro a hf
     refine sNo hf rfl rfl rfl (congrArg (fun b => some (Value.bool b)) hb87) rfl rfl rfl ?_; clear hf; intro a hf
     refine sNo hf rfl rfl rfl (congrArg (fun b => some (Value.bool b)) hb87) rfl rfl rfl ?_; clear hf; intro a hf
     refine sY hf hs rfl rfl rfl (Y_pickT rfl (congrArg (fun b => some (Value.bool b)) hb87) rfl) ?_; clear hf; intro a hf
     refine sY hf hs rfl rfl rfl (Y_move rfl rfl) ?_; clear hf; intro a hf
     refine sNo hf rfl rfl rfl rfl rfl rfl rfl ?_; clear hf; intro a hf
     refine sNo hf rfl rfl rfl rfl rfl rfl rfl ?_; clear hf; intro a hf
     refine sNo hf rfl rfl rfl rfl rfl rfl rfl ?_; clear hf; intro a hf
     refine sNo hf rfl rfl rfl rfl rfl rfl rfl ?_; clear hf; intro a hf
     refine sY hf hs rfl rfl rfl (Y_pickT rfl rfl rfl) ?_; clear hf; intro a hf
     refine sY hf hs rfl rfl rfl (Y_move rfl rfl) ?_; clear hf; intro a hf
     refine sNo hf rfl rfl rfl rfl rfl rfl rfl ?_; clear hf; intro a hf
     refine sNo hf rfl rfl rfl rfl rfl rfl rfl ?_; clear hf; intro a hf
     refine sNo hf rfl rfl rfl rfl rfl rfl rfl ?_; clear hf; intro a hf
     refine sY hf hs rfl rfl rfl (Y_pickT rfl rfl rfl) ?_; clear hf; intro a hf
     refine sY hf hs rfl rfl rfl (Y_move rfl rfl) ?_; clear hf; intro a hf
     refine sNo hf rfl rfl rfl rfl rfl rfl rfl ?_; clear hf; intro a hf
     refine sNo hf rfl rfl rfl rfl rfl rfl rfl ?_; clear hf; intro a hf
     refine sNo hf rfl rfl rfl rfl rfl rfl rfl ?_; clear hf; intro a hf
     refine sY hf hs rfl rfl rfl (Y_pickT rfl rfl rfl) ?_; clear hf; intro a hf
     refine sY hf hs rfl rfl rfl (Y_move rfl rfl) ?_; clear hf; intro a hf
     refine sNo hf rfl rfl rfl rfl rfl rfl rfl ?_; clear hf; intro a hf
     refine sNo hf rfl rfl rfl rfl rfl rfl rfl ?_; clear hf; intro a hf
     refine sNo hf rfl rfl rfl rfl rfl rfl rfl ?_; clear hf; intro a hf
     refine sNo hf rfl rfl rfl rfl rfl rfl rfl ?_; clear hf; intro a hf
     refine sY hf hs rfl rfl rfl (Y_pickT rfl rfl rfl) ?_; clear hf; intro a hf
     refine wpO_nil ?_
     refine wpL_nil (then_normal ?_)
     exact ⟨true, Option.some.inj hj83, (FrD.pick (FrD.pick (FrD.pick (FrD.pick (FrD.pick (FrD.pick hf.none hf rfl) hf rfl) hf rfl) hf rfl) hf rfl) hf rfl), hs.sel [2, 0, 1, 3, 5] (by decide)⟩
    ·have hj83 := bif_f hj83 hb87
     refine sYg hf hs rfl rfl rfl (congrArg (fun b => some (Value.bool b)) hb87) rfl rfl rfl (Y_move rfl rfl) ?_; clear hf; intro a hf
     refine sYg hf hs rfl rfl rfl (congrArg (fun b => some (Value.bool b)) hb87) rfl rfl rfl (Y_move rfl rfl) ?_; clear hf; intro a hf
     refine sYg hf hs rfl rfl rfl (congrArg (fun b => some (Value.bool b)) hb87) rfl rfl rfl (Y_neq rfl rfl rfl) ?_; clear hf; intro a hf
     refine sY hf hs rfl rfl rfl (Y_pickF rfl (congrArg (fun b => some (Value.bool b)) hb87) rfl) ?_; clear hf; intro a hf
     refine sY hf hs rfl rfl rfl (Y_move rfl rfl) ?_; clear hf; intro a hf
     refine bsplit (r30.2 != r37.2) (fun hb88 => ?_) (fun hb88 => ?_)
     ·have hj83 := bif_t hj83 hb88
      refine sNo hf rfl rfl rfl (congrArg (fun b => some (Value.bool b)) hb88) rfl rfl rfl ?_; clear hf; intro a hf
      refine sNo hf rfl rfl rfl (congrArg (fun b => some (Value.bool b)) hb88) rfl rfl rfl ?_; clear hf; intro a hf
      refine sNo hf rfl rfl rfl (congrArg (fun b => some (Value.bool b)) hb88) rfl rfl rfl ?_; clear hf; intro a hf
      refine sNo hf rfl rfl rfl (congrArg (fun b => some (Value.bool b)) hb88) rfl rfl rfl ?_; clear hf; intro a hf
      refine sY hf hs rfl rfl rfl (Y_pickT rfl (congrArg (fun b => some (Value.bool b)) hb88) rfl) ?_; clear hf; intro a hf
      refine sY hf hs rfl rfl rfl (Y_move rfl rfl) ?_; clear hf; intro a hf
      refine sNo hf rfl rfl rfl rfl rfl rfl rfl ?_; clear hf; intro a hf
      refine sNo hf rfl rfl rfl rfl rfl rfl rfl ?_; clear hf; intro a hf
      refine sNo hf rfl rfl rfl rfl rfl rfl rfl ?_; clear hf; intro a hf
      refine sY hf hs rfl rfl rfl (Y_pickT rfl rfl rfl) ?_; clear hf; intro a hf
      refine sY hf hs rfl rfl rfl (Y_move rfl rfl) ?_; clear hf; intro a hf
      refine sNo hf rfl rfl rfl rfl rfl rfl rfl ?_; clear hf; intro a hf
      refine sNo hf rfl rfl rfl rfl rfl rfl rfl ?_; clear hf; intro a hf
      refine sNo hf rfl rfl rfl rfl rfl rfl rfl ?_; clear hf; intro a hf
      refine sY hf hs rfl rfl rfl (Y_pickT rfl rfl rfl) ?_; clear hf; intro a hf
      refine sY hf hs rfl rfl rfl (Y_move rfl rfl) ?_; clear hf; intro a hf
      refine sNo hf rfl rfl rfl rfl rfl rfl rfl ?_; clear hf; intro a hf
      refine sNo hf rfl rfl rfl rfl rfl rfl rfl ?_; clear hf; intro a hf
      refine sNo hf rfl rfl rfl rfl rfl rfl rfl ?_; clear hf; intro a hf
      refine sNo hf rfl rfl rfl rfl rfl rfl rfl ?_; clear hf; intro a hf
      refine sY hf hs rfl rfl rfl (Y_pickT rfl rfl rfl) ?_; clear hf; intro a hf
      refine wpO_nil ?_
      refine wpL_nil (then_normal ?_)
      exact ⟨true, Option.some.inj hj83, (FrD.pick (FrD.pick (FrD.pick (FrD.pick (FrD.pick (FrD.pick hf.none hf rfl) hf rfl) hf rfl) hf rfl) hf rfl) hf rfl), hs.sel [2, 0, 1, 3, 5] (by decide)⟩
     ·have hj83 := bif_f hj83 hb88
      refine sYg hf hs rfl rfl rfl (congrArg (fun b => some (Value.bool b)) hb88) rfl rfl rfl (Y_move rfl rfl) ?_; clear hf; intro a hf
      refine sYg hf hs rfl rfl rfl (congrArg (fun b => some (Value.bool b)) hb88) rfl rfl rfl (Y_move rfl rfl) ?_; clear hf; intro a hf
      obtain ⟨r89, hc90, hj83⟩ := bind_some hj83
      refine sCallg hf rfl rfl rfl (congrArg (fun b => some (Value.bool b)) hb88) rfl rfl rfl rfl (cap := []) rfl rfl en31 (laws_likeTables9_ok F r30.1 A32 n33 c34 hn35 r37.1 A39 n40 c41 hn42 _ _ hc90 (hs.rdM (i := 5) rfl) (hs.rdM (i := 6) rfl)) ?_; clear hf
      rintro _ w ⟨rfl, hs1⟩ a hf
      have hs : St _ W w [_, _, _, _, _, _, _, _, _, _, _, _] := hs.ext hs1.below
      clear hs1
      refine sYg hf hs rfl rfl rfl (congrArg (fun b => some (Value.bool b)) hb88) rfl rfl rfl (Y_not rfl rfl) ?_; clear hf; intro a hf
      refine sY hf hs rfl rfl rfl (Y_pickF rfl (congrArg (fun b => some (Value.bool b)) hb88) rfl) ?_; clear hf; intro a hf
      refine sY hf hs rfl rfl rfl (Y_move rfl rfl) ?_; clear hf; intro a hf
      refine bsplit (!r89) (fun hb91 => ?_) (fun hb91 => ?_)
      ·have hj83 := bif_t hj83 hb91
       refine sNo hf rfl rfl rfl (congrArg (fun b => some (Value.bool b)) hb91) rfl rfl rfl ?_; clear hf; intro a hf
       refine sNo hf rfl rfl rfl (congrArg (fun b => some (Value.bool b)) hb91) rfl rfl rfl ?_; clear hf; intro a hf
       refine sNo hf rfl rfl rfl (congrArg (fun b => some (Value.bool b)) hb91) rfl rfl rfl ?_; clear hf; intro a hf
       refine sY hf hs rfl rfl rfl (Y_pickT rfl (congrArg (fun b => some (Value.bool b)) hb91) rfl) ?_; clear hf; intro a hf
       refine sY hf hs rfl rfl rfl (Y_move rfl rfl) ?_; clear hf; intro a hf
       refine sNo hf rfl rfl rfl rfl rfl rfl rfl ?_; clear hf; intro a hf
       refine sNo hf rfl rfl rfl rfl rfl rfl rfl ?_; clear hf; intro a hf
       refine sNo hf rfl rfl rfl rfl rfl rfl rfl ?_; clear hf; intro a hf
       refine sY hf hs rfl rfl rfl (Y_pickT rfl rfl rfl) ?_; clear hf; intro a hf
       refine sY hf hs rfl rfl rfl (Y_move rfl rfl) ?_; clear hf; intro a hf
       refine sNo hf rfl rfl rfl rfl rfl rfl rfl ?_; clear hf; intro a hf
       refine sNo hf rfl rfl rfl rfl rfl rfl rfl ?_; clear hf; intro a hf
       refine sNo hf rfl rfl rfl rfl rfl rfl rfl ?_; clear hf; intro a hf
       refine sNo hf rfl rfl rfl rfl rfl rfl rfl ?_; clear hf; intro a hf
       refine sY hf hs rfl rfl rfl (Y_pickT rfl rfl rfl) ?_; clear hf; intro a hf
       refine wpO_nil ?_
       refine wpL_nil (then_normal ?_)
       exact ⟨true, Option.some.inj hj83, (FrD.pick (FrD.pick (FrD.pick (FrD.pick (FrD.pick (FrD.pick hf.none hf rfl) hf rfl) hf rfl) hf rfl) hf rfl) hf rfl), hs.sel [2, 0, 1, 3, 5] (by decide)⟩
      ·have hj83 := bif_f hj83 hb91
       refine sYg hf hs rfl rfl rfl (congrArg (fun b => some (Value.bool b)) hb91) rfl rfl rfl (Y_move rfl rfl) ?_; clear hf; intro a hf
       refine sYg hf hs rfl rfl rfl (congrArg (fun b => some (Value.bool b)) hb91) rfl rfl rfl (Y_move rfl rfl) ?_; clear hf; intro a hf
       refine sYg hf hs rfl rfl rfl (congrArg (fun b => some (Value.bool b)) hb91) rfl rfl rfl (Y_neq rfl rfl rfl) ?_; clear hf; intro a hf
       refine sY hf hs rfl rfl rfl (Y_pickF rfl (congrArg (fun b => some (Value.bool b)) hb91) rfl) ?_; clear hf; intro a hf
       refine sY hf hs rfl rfl rfl (Y_move rfl rfl) ?_; clear hf; intro a hf
       refine bsplit (r30.2 != r16.2) (fun hb92 => ?_) (fun hb92 => ?_)
       ·have hj83 := bif_t hj83 hb92
        refine sNo hf rfl rfl rfl (congrArg (fun b => some (Value.bool b)) hb92) rfl rfl rfl ?_; clear hf; intro a hf
        refine sNo hf rfl rfl rfl (congrArg (fun b => some (Value.bool b)) hb92) rfl rfl rfl ?_; clear hf; intro a hf
        refine sNo hf rfl rfl rfl (congrArg (fun b => some (Value.bool b)) hb92) rfl rfl rfl ?_; clear hf; intro a hf
        refine sY hf hs rfl rfl rfl (Y_pickT rfl (congrArg (fun b => some (Value.bool b)) hb92) rfl) ?_; clear hf; intro a hf
        refine sY hf hs rfl rfl rfl (Y_move rfl rfl) ?_; clear hf; intro a hf
        refine sNo hf rfl rfl rfl rfl rfl rfl rfl ?_; clear hf; intro a hf
        refine sNo hf rfl rfl rfl rfl rfl rfl rfl ?_; clear hf; intro a hf
        refine sNo hf rfl rfl rfl rfl rfl rfl rfl ?_; clear hf; intro a hf
        refine sNo hf rfl rfl rfl rfl rfl rfl rfl ?_; clear hf; intro a hf
        refine sY hf hs rfl rfl rfl (Y_pickT rfl rfl rfl) ?_; clear hf; intro a hf
        refine wpO_nil ?_
        refine wpL_nil (then_normal ?_)
        exact ⟨true, Option.some.inj hj83, (FrD.pick (FrD.pick (FrD.pick (FrD.pick (FrD.pick (FrD.pick hf.none hf rfl) hf rfl) hf rfl) hf rfl) hf rfl) hf rfl), hs.sel [2, 0, 1, 3, 5] (by decide)⟩
       ·have hj83 := bif_f hj83 hb92
        refine sYg hf hs rfl rfl rfl (congrArg (fun b => some (Value.bool b)) hb92) rfl rfl rfl (Y_move rfl rfl) ?_; clear hf; intro a hf
        refine sYg hf hs rfl rfl rfl (congrArg (fun b => some (Value.bool b)) hb92) rfl rfl rfl (Y_move rfl rfl) ?_; clear hf; intro a hf
        refine sYg hf hs rfl rfl rfl (congrArg (fun b => some (Value.bool b)) hb92) rfl rfl rfl (Y_neq rfl rfl rfl) ?_; clear hf; intro a hf
        refine sY hf hs rfl rfl rfl (Y_pickF rfl (congrArg (fun b => some (Value.bool b)) hb92) rfl) ?_; clear hf; intro a hf
        refine sY hf hs rfl rfl rfl (Y_move rfl rfl) ?_; clear hf; intro a hf
        refine bsplit (r55.2 != r62.2) (fun hb93 => ?_) (fun hb93 => ?_)
        ·have hj83 := bif_t hj83 hb93
         refine sNo hf rfl rfl rfl (congrArg (fun b => some (Value.bool b)) hb93) rfl rfl rfl ?_; clear hf; intro a hf
         refine sNo hf rfl rfl rfl (congrArg (fun b => some (Value.bool b)) hb93) rfl rfl rfl ?_; clear hf; intro a hf
         refine sNo hf rfl rfl rfl (congrArg (fun b => some (Value.bool b)) hb93) rfl rfl rfl ?_; clear hf; intro a hf
         refine sNo hf rfl rfl rfl (congrArg (fun b => some (Value.bool b)) hb93) rfl rfl rfl ?_; clear hf; intro a hf
         refine sY hf hs rfl rfl rfl (Y_pickT rfl (congrArg (fun b => some (Value.bool b)) hb93) rfl) ?_; clear hf; intro a hf
         refine wpO_nil ?_
         refine wpL_nil (then_normal ?_)
         exact ⟨true, Option.some.inj hj83, (FrD.pick (FrD.pick (FrD.pick (FrD.pick (FrD.pick (FrD.pick hf.none hf rfl) hf rfl) hf rfl) hf rfl) hf rfl) hf rfl), hs.sel [2, 0, 1, 3, 5] (by decide)⟩
        ·have hj83 := bif_f hj83 hb93
         refine sYg hf hs rfl rfl rfl (congrArg (fun b => some (Value.bool b)) hb93) rfl rfl rfl (Y_move rfl rfl) ?_; clear hf; intro a hf
         refine sYg hf hs rfl rfl rfl (congrArg (fun b => some (Value.bool b)) hb93) rfl rfl rfl (Y_move rfl rfl) ?_; clear hf; intro a hf
         obtain ⟨r94, hc95, hj83⟩ := bind_some hj83
         refine sCallg hf rfl rfl rfl (congrArg (fun b => some (Value.bool b)) hb93) rfl rfl rfl rfl (cap := []) rfl rfl en31 (laws_likeTables9_ok F r55.1 A57 n58 c59 hn60 r62.1 A64 n65 c66 hn67 _ _ hc95 (hs.rdM (i := 10) rfl) (hs.rdM (i := 11) rfl)) ?_; clear hf
         rintro _ w ⟨rfl, hs1⟩ a hf
         have hs : St _ W w [_, _, _, _, _, _, _, _, _, _, _, _] := hs.ext hs1.below
         clear hs1
         refine sYg hf hs rfl rfl rfl (congrArg (fun b => some (Value.bool b)) hb93) rfl rfl rfl (Y_not rfl rfl) ?_; clear hf; intro a hf
         refine sY hf hs rfl rfl rfl (Y_pickF rfl (congrArg (fun b => some (Value.bool b)) hb93) rfl) ?_; clear hf; intro a hf
         refine wpO_nil ?_
         refine wpL_nil (then_normal ?_)
         exact ⟨(!r94), Option.some.inj hj83, (FrD.pick (FrD.pick (FrD.pick (FrD.pick (FrD.pick (FrD.pick hf.none hf rfl) hf rfl) hf rfl) hf rfl) hf rfl) hf rfl), hs.sel [2, 0, 1, 3, 5] (by decide)⟩
  ·rintro a w ⟨b81, hr_, hf, hs⟩
   subst hr_
   try dsimp only at hm
   refine wpL_cond hf rfl (fun hb96 => ?_) (fun hb96 => ?_)
   ·have hm := bif_t hm hb96
    refine wpL_seq <| wpL_region ?_
    refine sY hf hs rfl rfl rfl (Y_assign rfl rfl) ?_; clear hf; intro a hf
    refine wpO_nil ?_
    obtain rfl := Option.some.inj hm
    refine wpL_ret (ret_tmp rfl hf rfl ?_)
    exact ⟨_, rfl, rfl, hs.sel [] (by decide)⟩
   ·have hm := bif_f hm hb96
    refine wpL_skip <| wpL_seq <| wpL_seq <| wpL_region ?_
    refine sY hf hs rfl rfl rfl (Y_move rfl rfl) ?_; clear hf; intro a hf
    refine sY hf hs rfl rfl rfl (Y_neq rfl rfl rfl) ?_; clear hf; intro a hf
    refine wpO_nil ?_
    refine wpL_cond hf rfl (fun hb97 => ?_) (fun hb97 => ?_)
    ·have hm := bif_t hm hb97
     refine wpL_seq <| wpL_region ?_
     refine sY hf hs rfl rfl rfl (Y_assign rfl rfl) ?_; clear hf; intro a hf
     refine wpO_nil ?_
     obtain rfl := Option.some.inj hm
     refine wpL_ret (ret_tmp rfl hf rfl ?_)
     exact ⟨_, rfl, rfl, hs.sel [] (by decide)⟩
    ·have hm := bif_f hm hb97
     refine wpL_skip <| wpL_seq <| wpL_region ?_
     refine sY hf hs rfl rfl rfl (Y_load_blkS rfl rfl (i := 0) rfl ag55 ti55 rfl) ?_; clear hf; intro a hf
     refine sY hf hs rfl rfl rfl (Y_move rfl rfl) ?_; clear hf; intro a hf
     refine sY hf hs rfl rfl rfl (Y_lenH rfl rfl el40 hn13) ?_; clear hf; intro a hf
     obtain ⟨r98, hc99, hm⟩ := bind_some hm
     refine sCall hf rfl rfl rfl rfl (cap := []) rfl rfl en49 (impl_FiringTimes_ok F (GEventGraph.mk r4.1.Events r4.1.Places) A6 n7 c8 hn9 (r4.2.length : Int) _ _ hc99 (hs.rd (i := 1) rfl)) ?_; clear hf
     rintro _ w ⟨A100, n101, c102, vs104, rfl, hn103, hs1⟩ a hf
     have hs : St _ W w [_, _, _, _, _, .mat A100 n101 c102 28 2 vs104 r98.1] := hs.join hs1
     clear hs1
     refine sY hf hs rfl rfl rfl (Y_move rfl rfl) ?_; clear hf; intro a hf
     refine sY hf hs rfl rfl rfl (Y_extract rfl rfl rfl) ?_; clear hf; intro a hf
     refine sY hf hs rfl rfl rfl (Y_extract rfl rfl rfl) ?_; clear hf; intro a hf
     refine sY hf hs rfl rfl rfl (Y_assign rfl rfl) ?_; clear hf; intro a hf
     refine sY hf hs rfl rfl rfl (Y_assign rfl rfl) ?_; clear hf; intro a hf
     refine wpO_nil <| wpL_seq <| wpL_seq <| wpL_region ?_
     refine sY hf hs rfl rfl rfl (Y_move rfl rfl) ?_; clear hf; intro a hf
     refine sY hf hs rfl rfl rfl (Y_neq rfl rfl rfl) ?_; clear hf; intro a hf
     refine wpO_nil ?_
     refine wpL_cond hf rfl (fun hb105 => ?_) (fun hb105 => ?_)
     ·have hm := bif_t hm hb105
      refine wpL_seq <| wpL_region ?_
      refine sY hf hs rfl rfl rfl (Y_assign rfl rfl) ?_; clear hf; intro a hf
      refine wpO_nil ?_
      obtain rfl := Option.some.inj hm
      refine wpL_ret (ret_tmp rfl hf rfl ?_)
      exact ⟨_, rfl, rfl, hs.sel [] (by decide)⟩
     ·have hm := bif_f hm hb105
      refine wpL_skip <| wpL_seq <| wpL_region ?_
      refine sY hf hs rfl rfl rfl (Y_move rfl rfl) ?_; clear hf; intro a hf
      refine sY hf hs rfl rfl rfl (Y_lenH rfl rfl el40 hn13) ?_; clear hf; intro a hf
      refine sY hf hs rfl rfl rfl (Y_assign rfl rfl) ?_; clear hf; intro a hf
      refine wpO_nil <| wpL_seq <| wpL_seq <| wpL_region ?_
      refine sY hf hs rfl rfl rfl (Y_assign rfl rfl) ?_; clear hf; intro a hf
      refine wpO_nil ?_
      obtain ⟨r1725, hl1726, hm⟩ := bind_some hm
      refine wpL_block (fun a w => Sum.inr () = r1725 ∧ Fr a 219 [] ∧ St [] W w []) ?_ ?_
      ·refine wpL_loop (fun n a w => ∃ x1185 : Int, laws_FnLatest_L16 F r4 r16 r30 r98 n x1185 = some r1725 ∧ Fr a 219 [(3, .pointer (some ⟨b15, 0, none⟩)), (4, .slice A10 n11 c12), (5, .slice A18 n19 c20), (9, .slice A32 n33 c34), (20, .slice A100 n101 c102), (22, .int .i64 (r4.2.length : Int)), (23, .int .i64 x1185)] ∧ St [] W w [.blk b15 55 [.int .i64 r4.1.Events, .slice A6 n7 c8], .row A6 n7 c8 64 4 ((recs GPlace.cells) r4.1.Places), .mat A10 n11 c12 28 2 vs14 r4.2, .mat A18 n19 c20 28 2 vs22 r16.1, .mat A32 n33 c34 28 2 vs36 r30.1, .mat A100 n101 c102 28 2 vs104 r98.1]) F ?_ ?_ ?_
       ·exact ⟨1, hl1726, (FrD.pick (FrD.pick (FrD.pick (FrD.pick (FrD.pick (FrD.pick (FrD.pick hf.none hf rfl) hf rfl) hf rfl) hf rfl) hf rfl) hf rfl) hf rfl), hs⟩
       ·rintro a w ⟨x1185, h0_, -, -⟩; simp [laws_FnLatest_L16] at h0_
       ·rintro n1728 a w ⟨x1185, hm1727, hf, hs⟩
        rw [laws_FnLatest_L16] at hm1727
        refine wpL_seq <| wpL_seq <| wpL_region ?_
        refine sY hf hs rfl rfl rfl (Y_move rfl rfl) ?_; clear hf; intro a hf
        refine sY hf hs rfl rfl rfl (Y_move rfl rfl) ?_; clear hf; intro a hf
        refine sY hf hs rfl rfl rfl (Y_leq rfl rfl rfl) ?_; clear hf; intro a hf
        refine wpO_nil ?_
        refine wpL_cond hf rfl (fun hb1729 => ?_) (fun hb1729 => ?_)
        ·have hm1727 := bif_t hm1727 hb1729
         refine wpL_skip <| wpL_seq <| wpL_block0 <| wpL_seq <| wpL_region ?_
         refine sY hf hs rfl rfl rfl (Y_assign rfl rfl) ?_; clear hf; intro a hf
         refine wpO_nil ?_
         obtain ⟨r2131, hl2132, hm1727⟩ := bind_some hm1727
         refine wpL_block (fun a w => Sum.inr () = r2131 ∧ Fr a 219 [(3, .pointer (some ⟨b15, 0, none⟩)), (4, .slice A10 n11 c12), (5, .slice A18 n19 c20), (9, .slice A32 n33 c34), (20, .slice A100 n101 c102), (22, .int .i64 (r4.2.length : Int)), (23, .int .i64 x1185)] ∧ St [] W w [.blk b15 55 [.int .i64 r4.1.Events, .slice A6 n7 c8], .row A6 n7 c8 64 4 ((recs GPlace.cells) r4.1.Places), .mat A10 n11 c12 28 2 vs14 r4.2, .mat A18 n19 c20 28 2 vs22 r16.1, .mat A32 n33 c34 28 2 vs36 r30.1, .mat A100 n101 c102 28 2 vs104 r98.1]) ?_ ?_
         ·refine wpL_loop (fun n a w => ∃ x1997 : Int, laws_FnLatest_L20 F r4 r16 r30 r98 x1185 n x1997 = some r2131 ∧ Fr a 219 [(3, .pointer (some ⟨b15, 0, none⟩)), (4, .slice A10 n11 c12), (5, .slice A18 n19 c20), (9, .slice A32 n33 c34), (20, .slice A100 n101 c102), (22, .int .i64 (r4.2.length : Int)), (23, .int .i64 x1185), (24, .int .i64 x1997)] ∧ St [] W w [.blk b15 55 [.int .i64 r4.1.Events, .slice A6 n7 c8], .row A6 n7 c8 64 4 ((recs GPlace.cells) r4.1.Places), .mat A10 n11 c12 28 2 vs14 r4.2, .mat A18 n19 c20 28 2 vs22 r16.1, .mat A32 n33 c34 28 2 vs36 r30.1, .mat A100 n101 c102 28 2 vs104 r98.1]) F ?_ ?_ ?_
          ·exact ⟨0, hl2132, (FrD.pick (FrD.pick (FrD.pick (FrD.pick (FrD.pick (FrD.pick (FrD.pick (FrD.pick hf.none hf rfl) hf rfl) hf rfl) hf rfl) hf rfl) hf rfl) hf rfl) hf rfl), hs⟩
          ·rintro a w ⟨x1997, h0_, -, -⟩; simp [laws_FnLatest_L20] at h0_
          ·rintro n2134 a w ⟨x1997, hm2133, hf, hs⟩
           rw [laws_FnLatest_L20] at hm2133
           refine wpL_seq <| wpL_seq <| wpL_region ?_
           refine sY hf hs rfl rfl rfl (Y_move rfl rfl) ?_; clear hf; intro a hf
           refine sY hf hs rfl rfl rfl (Y_fieldAddr rfl rfl fo55_0) ?_; clear hf; intro a hf
           refine sY hf hs rfl rfl rfl (Y_load_blk rfl rfl (i := 0) rfl rfl ag2) ?_; clear hf; intro a hf
           refine sY hf hs rfl rfl rfl (Y_lss rfl rfl rfl) ?_; clear hf; intro a hf
           refine wpO_nil ?_
           refine wpL_cond hf rfl (fun hb2135 => ?_) (fun hb2135 => ?_)
           ·have hm2133 := bif_t hm2133 hb2135
            refine wpL_skip <| wpL_seq <| wpL_block0 <| wpL_seq <| wpL_region ?_
            refine sY hf hs rfl rfl rfl (Y_move rfl rfl) ?_; clear hf; intro a hf
            refine sY hf hs rfl rfl rfl (Y_move rfl rfl) ?_; clear hf; intro a hf
            refine sY hf hs rfl rfl rfl (Y_sub rfl rfl rfl) ?_; clear hf; intro a hf
            obtain ⟨q2136, hi2137, hm2133⟩ := bind_some hm2133
            obtain ⟨hi2137a, hi2137b, hi2137q⟩ := idx_some hi2137
            obtain ⟨A2138, c2139, hv2140⟩ := hs.matRow (i := 2) rfl hi2137q
            refine sY hf hs rfl rfl rfl (Y_index rfl rfl rfl el40 ti28 (Rd.isAt (hs.rdV (i := 2) rfl) hv2140) hi2137a (ltn hn13 hi2137b)) ?_; clear hf; intro a hf
            refine sY hf hs rfl rfl rfl (Y_load_rd rfl rfl (fun w hs => hs.rdV (i := 2) rfl) (at1 hv2140) ag28) ?_; clear hf; intro a hf
            refine sY hf hs rfl rfl rfl (Y_move rfl rfl) ?_; clear hf; intro a hf
            obtain ⟨q2141, hi2142, hm2133⟩ := bind_some hm2133
            obtain ⟨hi2142a, hi2142b, hi2142q⟩ := idx_some hi2142
            refine sY hf hs rfl rfl rfl (Y_index rfl rfl rfl el28 ti2 (Rd.isAt (hs.rdRow (i := 2) rfl ⟨hi2137q, hv2140⟩) (at1 (ints_at hi2142q))) hi2142a hi2142b) ?_; clear hf; intro a hf
            refine sY hf hs rfl rfl rfl (Y_load_rd rfl rfl (fun w hs => hs.rdRow (i := 2) rfl ⟨hi2137q, hv2140⟩) (at1 (ints_at hi2142q)) ag2) ?_; clear hf; intro a hf
            refine sY hf hs rfl rfl rfl (Y_assign rfl rfl) ?_; clear hf; intro a hf
            refine wpO_nil <| wpL_seq <| wpL_seq <| wpL_region ?_
            refine sY hf hs rfl rfl rfl (Y_assign rfl rfl) ?_; clear hf; intro a hf
            refine wpO_nil ?_
            obtain ⟨r2199, hl2200, hm2133⟩ := bind_some hm2133
            refine wpL_block (fun a w => ∃ x2198 : Int, x2198 = r2199 ∧ Fr a 219 [(3, .pointer (some ⟨b15, 0, none⟩)), (4, .slice A10 n11 c12), (5, .slice A18 n19 c20), (9, .slice A32 n33 c34), (20, .slice A100 n101 c102), (22, .int .i64 (r4.2.length : Int)), (23, .int .i64 x1185), (24, .int .i64 x1997), (25, .int .i64 x2198)] ∧ St [] W w [.blk b15 55 [.int .i64 r4.1.Events, .slice A6 n7 c8], .row A6 n7 c8 64 4 ((recs GPlace.cells) r4.1.Places), .mat A10 n11 c12 28 2 vs14 r4.2, .mat A18 n19 c20 28 2 vs22 r16.1, .mat A32 n33 c34 28 2 vs36 r30.1, .mat A100 n101 c102 28 2 vs104 r98.1]) ?_ ?_
            ·refine wpL_loop (fun n a w => ∃ x2179 : Int, ∃ x2180 : Int, laws_FnLatest_L21 F r4 r16 x1185 x1997 n x2179 x2180 = some r2199 ∧ Fr a 219 [(3, .pointer (some ⟨b15, 0, none⟩)), (4, .slice A10 n11 c12), (5, .slice A18 n19 c20), (9, .slice A32 n33 c34), (20, .slice A100 n101 c102), (22, .int .i64 (r4.2.length : Int)), (23, .int .i64 x1185), (24, .int .i64 x1997), (25, .int .i64 x2179), (26, .int .i64 x2180)] ∧ St [] W w [.blk b15 55 [.int .i64 r4.1.Events, .slice A6 n7 c8], .row A6 n7 c8 64 4 ((recs GPlace.cells) r4.1.Places), .mat A10 n11 c12 28 2 vs14 r4.2, .mat A18 n19 c20 28 2 vs22 r16.1, .mat A32 n33 c34 28 2 vs36 r30.1, .mat A100 n101 c102 28 2 vs104 r98.1]) F ?_ ?_ ?_
             ·exact ⟨q2141, 0, hl2200, (FrD.pick (FrD.pick (FrD.pick (FrD.pick (FrD.pick (FrD.pick (FrD.pick (FrD.pick (FrD.pick (FrD.pick hf.none hf rfl) hf rfl) hf rfl) hf rfl) hf rfl) hf rfl) hf rfl) hf rfl) hf rfl) hf rfl), hs⟩
             ·rintro a w ⟨x2179, x2180, h0_, -, -⟩; simp [laws_FnLatest_L21] at h0_
             ·rintro n2202 a w ⟨x2179, x2180, hm2201, hf, hs⟩
              rw [laws_FnLatest_L21] at hm2201
              refine wpL_seq <| wpL_seq <| wpL_region ?_
              refine sY hf hs rfl rfl rfl (Y_move rfl rfl) ?_; clear hf; intro a hf
              refine sY hf hs rfl rfl rfl (Y_fieldAddr rfl rfl fo55_1) ?_; clear hf; intro a hf
              refine sY hf hs rfl rfl rfl (Y_load_blk rfl rfl (i := 0) rfl rfl ag53) ?_; clear hf; intro a hf
              refine sY hf hs rfl rfl rfl (Y_lenH rfl rfl el53 hn9) ?_; clear hf; intro a hf
              refine sY hf hs rfl rfl rfl (Y_lss rfl rfl rfl) ?_; clear hf; intro a hf
              refine wpO_nil ?_
              refine wpL_cond hf rfl (fun hb2203 => ?_) (fun hb2203 => ?_)
              ·have hm2201 := bif_t hm2201 hb2203
               refine wpL_skip <| wpL_seq <| wpL_block0 <| wpL_seq <| wpL_region ?_
               refine sY hf hs rfl rfl rfl (Y_fieldAddr rfl rfl fo55_1) ?_; clear hf; intro a hf
               refine sY hf hs rfl rfl rfl (Y_load_blk rfl rfl (i := 0) rfl rfl ag53) ?_; clear hf; intro a hf
               refine sY hf hs rfl rfl rfl (Y_move rfl rfl) ?_; clear hf; intro a hf
               obtain ⟨q2204, hi2205, hm2201⟩ := bind_some hm2201
               obtain ⟨hi2205a, hi2205b, hi2205q⟩ := idx_some hi2205
               refine sY hf hs rfl rfl rfl (Y_index rfl rfl rfl el53 ti64 (Rd.isAt (hs.rd (i := 1) rfl) (recs_at (s := 4) GPlace.len hi2205q (j := 0) rfl)) hi2205a (ltn hn9 hi2205b)) ?_; clear hf; intro a hf
               refine sY hf hs rfl rfl rfl (Y_load_rdS rfl rfl (us := [.int .i64 q2204.From, .int .i64 q2204.To, .int .i64 q2204.Delay, .int .i64 q2204.Tokens]) (fun w hs => hs.rd (i := 1) rfl) (fun j u hj => recs_at (s := 4) GPlace.len hi2205q hj) (Nat.succ_pos _) ag64 ti64 rfl) ?_; clear hf; intro a hf
               refine sAlloc hf hs rfl rfl rfl rfl ti64 ?_; clear hf hs; intro a w b2206 hs hf
               have hs : St _ W w [_, _, _, _, _, _, .blk b2206 64 [.int .i64 0, .int .i64 0, .int .i64 0, .int .i64 0]] := hs
               refine sStore (i := 6) (us := [.int .i64 q2204.From, .int .i64 q2204.To, .int .i64 q2204.Delay, .int .i64 q2204.Tokens]) hf hs rfl rfl rfl rfl rfl rfl ti64 rfl rfl rfl (Nat.le_of_ble_eq_true rfl) rfl ?_; clear hs; intro w hs
               have hs : St _ W w [_, _, _, _, _, _, .blk b2206 64 [.int .i64 q2204.From, .int .i64 q2204.To, .int .i64 q2204.Delay, .int .i64 q2204.Tokens]] := hs
               refine wpO_nil <| wpL_seq ?_
               obtain ⟨r2209, hj2210, hm2201⟩ := bind_some hm2201
               refine wpL_cut (fun a w => ∃ b2208 : Bool, b2208 = r2209 ∧ Fr a 219 [(3, .pointer (some ⟨b15, 0, none⟩)), (4, .slice A10 n11 c12), (5, .slice A18 n19 c20), (9, .slice A32 n33 c34), (20, .slice A100 n101 c102), (22, .int .i64 (r4.2.length : Int)), (23, .int .i64 x1185), (24, .int .i64 x1997), (25, .int .i64 x2179), (26, .int .i64 x2180), (27, .pointer (some ⟨b2206, 0, none⟩)), (170, .bool b2208)] ∧ St [] W w [.blk b15 55 [.int .i64 r4.1.Events, .slice A6 n7 c8], .row A6 n7 c8 64 4 ((recs GPlace.cells) r4.1.Places), .mat A10 n11 c12 28 2 vs14 r4.2, .mat A18 n19 c20 28 2 vs22 r16.1, .mat A32 n33 c34 28 2 vs36 r30.1, .mat A100 n101 c102 28 2 vs104 r98.1, .blk b2206 64 [.int .i64 q2204.From, .int .i64 q2204.To, .int .i64 q2204.Delay, .int .i64 q2204.Tokens]]) ?_ ?_
               ·refine wpL_region ?_
                refine sY hf hs rfl rfl rfl (Y_fieldAddr rfl rfl fo64_0) ?_; clear hf; intro a hf
                refine sY hf hs rfl rfl rfl (Y_load_blk rfl rfl (i := 6) rfl rfl ag2) ?_; clear hf; intro a hf
                refine sY hf hs rfl rfl rfl (Y_move rfl rfl) ?_; clear hf; intro a hf
                refine sY hf hs rfl rfl rfl (Y_eql rfl rfl rfl) ?_; clear hf; intro a hf
                refine sY hf hs rfl rfl rfl (Y_move rfl rfl) ?_; clear hf; intro a hf
                refine bsplit (q2204.From == x1997) (fun hb2211 => ?_) (fun hb2211 => ?_)
                ·have hj2210 := bif_t hj2210 hb2211
                 refine sYg hf hs rfl rfl rfl (congrArg (fun b => some (Value.bool b)) hb2211) rfl rfl rfl (Y_move rfl rfl) ?_; clear hf; intro a hf
                 refine sYg hf hs rfl rfl rfl (congrArg (fun b => some (Value.bool b)) hb2211) rfl rfl rfl (Y_fieldAddr rfl rfl fo64_3) ?_; clear hf; intro a hf
                 refine sYg hf hs rfl rfl rfl (congrArg (fun b => some (Value.bool b)) hb2211) rfl rfl rfl (Y_load_blk rfl rfl (i := 6) rfl rfl ag2) ?_; clear hf; intro a hf
                 refine sYg hf hs rfl rfl rfl (congrArg (fun b => some (Value.bool b)) hb2211) rfl rfl rfl (Y_add rfl rfl rfl) ?_; clear hf; intro a hf
                 refine sYg hf hs rfl rfl rfl (congrArg (fun b => some (Value.bool b)) hb2211) rfl rfl rfl (Y_move rfl rfl) ?_; clear hf; intro a hf
                 refine sYg hf hs rfl rfl rfl (congrArg (fun b => some (Value.bool b)) hb2211) rfl rfl rfl (Y_leq rfl rfl rfl) ?_; clear hf; intro a hf
                 refine sY hf hs rfl rfl rfl (Y_pickT rfl (congrArg (fun b => some (Value.bool b)) hb2211) rfl) ?_; clear hf; intro a hf
                 refine wpO_nil ?_
                 refine wpL_nil (then_normal ?_)
                 exact ⟨(decide ((IntKind.i64.wrap (x1185 + q2204.Tokens)) ≤ (r4.2.length : Int))), Option.some.inj hj2210, (FrD.pick (FrD.pick (FrD.pick (FrD.pick (FrD.pick (FrD.pick (FrD.pick (FrD.pick (FrD.pick (FrD.pick (FrD.pick (FrD.pick hf.none hf rfl) hf rfl) hf rfl) hf rfl) hf rfl) hf rfl) hf rfl) hf rfl) hf rfl) hf rfl) hf rfl) hf rfl), hs⟩
                ·have hj2210 := bif_f hj2210 hb2211
                 refine sNo hf rfl rfl rfl (congrArg (fun b => some (Value.bool b)) hb2211) rfl rfl rfl ?_; clear hf; intro a hf
                 refine sNo hf rfl rfl rfl (congrArg (fun b => some (Value.bool b)) hb2211) rfl rfl rfl ?_; clear hf; intro a hf
                 refine sNo hf rfl rfl rfl (congrArg (fun b => some (Value.bool b)) hb2211) rfl rfl rfl ?_; clear hf; intro a hf
                 refine sNo hf rfl rfl rfl (congrArg (fun b => some (Value.bool b)) hb2211) rfl rfl rfl ?_; clear hf; intro a hf
                 refine sNo hf rfl rfl rfl (congrArg (fun b => some (Value.bool b)) hb2211) rfl rfl rfl ?_; clear hf; intro a hf
                 refine sNo hf rfl rfl rfl (congrArg (fun b => some (Value.bool b)) hb2211) rfl rfl rfl ?_; clear hf; intro a hf
                 refine sY hf hs rfl rfl rfl (Y_pickF rfl (congrArg (fun b => some (Value.bool b)) hb2211) rfl) ?_; clear hf; intro a hf
                 refine wpO_nil ?_
                 refine wpL_nil (then_normal ?_)
                 exact ⟨false, Option.some.inj hj2210, (FrD.pick (FrD.pick (FrD.pick (FrD.pick (FrD.pick (FrD.pick (FrD.pick (FrD.pick (FrD.pick (FrD.pick (FrD.pick (FrD.pick hf.none hf rfl) hf rfl) hf rfl) hf rfl) hf rfl) hf rfl) hf rfl) hf rfl) hf rfl) hf rfl) hf rfl) hf rfl), hs⟩
               ·rintro a w ⟨b2208, hr_, hf, hs⟩
                subst hr_
                try dsimp only at hm2201
                refine wpL_cond hf rfl (fun hb2212 => ?_) (fun hb2212 => ?_)
                ·have hm2201 := bif_t hm2201 hb2212
                 refine wpL_draw (by kernel_rfl) (by kernel_rfl) hs ?_
                 refine qY hf rfl rfl rfl (Y_move rfl rfl) ?_; clear hf; intro a hf
                 refine qY hf rfl rfl rfl (Y_move rfl rfl) ?_; clear hf; intro a hf
                 refine qY hf rfl rfl rfl (Y_move rfl rfl) ?_; clear hf; intro a hf
                 refine qY hf rfl rfl rfl (Y_fieldAddr rfl rfl fo64_3) ?_; clear hf; intro a hf
                 refine qY hf rfl rfl rfl (Y_load_blk rfl rfl (i := 6) rfl rfl ag2) ?_; clear hf; intro a hf
                 refine qY hf rfl rfl rfl (Y_add rfl rfl rfl) ?_; clear hf; intro a hf
                 refine qY hf rfl rfl rfl (Y_sub rfl rfl rfl) ?_; clear hf; intro a hf
                 obtain ⟨q2213, hi2214, hm2201⟩ := bind_some hm2201
                 obtain ⟨hi2214a, hi2214b, hi2214q⟩ := idx_some hi2214
                 obtain ⟨A2215, c2216, hv2217⟩ := hs.matRow (i := 3) rfl hi2214q
                 refine qY hf rfl rfl rfl (Y_index rfl rfl rfl el40 ti28 (Rd.isAt (hs.rdV (i := 3) rfl) hv2217) hi2214a (ltn hn21 hi2214b)) ?_; clear hf; intro a hf
                 refine qY hf rfl rfl rfl (Y_load_rd rfl rfl (fun w hs => hs.rdV (i := 3) rfl) (at1 hv2217) ag28) ?_; clear hf; intro a hf
                 refine qY hf rfl rfl rfl (Y_fieldAddr rfl rfl fo64_1) ?_; clear hf; intro a hf
                 refine qY hf rfl rfl rfl (Y_load_blk rfl rfl (i := 6) rfl rfl ag2) ?_; clear hf; intro a hf
                 obtain ⟨q2218, hi2219, hm2201⟩ := bind_some hm2201
                 obtain ⟨hi2219a, hi2219b, hi2219q⟩ := idx_some hi2219
                 refine qY hf rfl rfl rfl (Y_index rfl rfl rfl el28 ti2 (Rd.isAt (hs.rdRow (i := 3) rfl ⟨hi2214q, hv2217⟩) (at1 (ints_at hi2219q))) hi2219a hi2219b) ?_; clear hf; intro a hf
                 refine qY hf rfl rfl rfl (Y_load_rd rfl rfl (fun w hs => hs.rdRow (i := 3) rfl ⟨hi2214q, hv2217⟩) (at1 (ints_at hi2219q)) ag2) ?_; clear hf; intro a hf
                 refine qY hf rfl rfl rfl (Y_fieldAddr rfl rfl fo64_2) ?_; clear hf; intro a hf
                 refine qY hf rfl rfl rfl (Y_load_blk rfl rfl (i := 6) rfl rfl ag2) ?_; clear hf; intro a hf
                 refine qY hf rfl rfl rfl (Y_sub rfl rfl rfl) ?_; clear hf; intro a hf
                 refine qY hf rfl rfl rfl (Y_min rfl rfl rfl) ?_; clear hf; intro a hf
                 refine qY hf rfl rfl rfl (Y_assign rfl rfl) ?_; clear hf; intro a hf
                 refine qNil ?_; clear hs; intro w hs
                 refine wpL_nil (Qb_normal ?_)
                 refine wpL_region ?_
                 refine sY hf hs rfl rfl rfl (Y_move rfl rfl) ?_; clear hf; intro a hf
                 refine sY hf hs rfl rfl rfl (Y_add rfl rfl rfl) ?_; clear hf; intro a hf
                 refine sY hf hs rfl rfl rfl (Y_assign rfl rfl) ?_; clear hf; intro a hf
                 refine wpO_nil ?_
                 refine wpL_nil (Ql_normal ?_)
                 exact ⟨(min x2179 (IntKind.i64.wrap (q2218 - q2204.Delay))), (IntKind.i64.wrap (x2180 + 1)), hm2201, (FrD.pick (FrD.pick (FrD.pick (FrD.pick (FrD.pick (FrD.pick (FrD.pick (FrD.pick (FrD.pick (FrD.pick hf.none hf rfl) hf rfl) hf rfl) hf rfl) hf rfl) hf rfl) hf rfl) hf rfl) hf rfl) hf rfl), hs.sel [0, 1, 2, 3, 4, 5] (by decide)⟩
                ·have hm2201 := bif_f hm2201 hb2212
                 refine wpL_skip ?_
                 refine wpL_nil (Qb_normal ?_)
                 refine wpL_region ?_
                 refine sY hf hs rfl rfl rfl (Y_move rfl rfl) ?_; clear hf; intro a hf
                 refine sY hf hs rfl rfl rfl (Y_add rfl rfl rfl) ?_; clear hf; intro a hf
                 refine sY hf hs rfl rfl rfl (Y_assign rfl rfl) ?_; clear hf; intro a hf
                 refine wpO_nil ?_
                 refine wpL_nil (Ql_normal ?_)
                 exact ⟨x2179, (IntKind.i64.wrap (x2180 + 1)), hm2201, (FrD.pick (FrD.pick (FrD.pick (FrD.pick (FrD.pick (FrD.pick (FrD.pick (FrD.pick (FrD.pick (FrD.pick hf.none hf rfl) hf rfl) hf rfl) hf rfl) hf rfl) hf rfl) hf rfl) hf rfl) hf rfl) hf rfl), hs.sel [0, 1, 2, 3, 4, 5] (by decide)⟩
              ·have hm2201 := bif_f hm2201 hb2203
               refine wpL_exit (Ql_exit (Qb_exit ?_))
               exact ⟨x2179, Option.some.inj hm2201, (FrD.pick (FrD.pick (FrD.pick (FrD.pick (FrD.pick (FrD.pick (FrD.pick (FrD.pick (FrD.pick hf.none hf rfl) hf rfl) hf rfl) hf rfl) hf rfl) hf rfl) hf rfl) hf rfl) hf rfl), hs⟩
            ·rintro a w ⟨x2198, hr_, hf, hs⟩
             subst hr_
             try dsimp only at hm2133
             refine wpL_seq ?_
             obtain ⟨r2243, hj2244, hm2133⟩ := bind_some hm2133
             refine wpL_cut (fun a w => ∃ b2242 : Bool, b2242 = r2243 ∧ Fr a 219 [(3, .pointer (some ⟨b15, 0, none⟩)), (4, .slice A10 n11 c12), (5, .slice A18 n19 c20), (9, .slice A32 n33 c34), (20, .slice A100 n101 c102), (22, .int .i64 (r4.2.length : Int)), (23, .int .i64 x1185), (24, .int .i64 x1997), (218, .bool b2242)] ∧ St [] W w [.blk b15 55 [.int .i64 r4.1.Events, .slice A6 n7 c8], .row A6 n7 c8 64 4 ((recs GPlace.cells) r4.1.Places), .mat A10 n11 c12 28 2 vs14 r4.2, .mat A18 n19 c20 28 2 vs22 r16.1, .mat A32 n33 c34 28 2 vs36 r30.1, .mat A100 n101 c102 28 2 vs104 r98.1]) ?_ ?_
             ·refine wpL_draw (by kernel_rfl) (by kernel_rfl) hs ?_
              refine qY hf rfl rfl rfl (Y_move rfl rfl) ?_; clear hf; intro a hf
              refine qY hf rfl rfl rfl (Y_move rfl rfl) ?_; clear hf; intro a hf
              refine qY hf rfl rfl rfl (Y_sub rfl rfl rfl) ?_; clear hf; intro a hf
              obtain ⟨q2245, hi2246, hj2244⟩ := bind_some hj2244
              obtain ⟨hi2246a, hi2246b, hi2246q⟩ := idx_some hi2246
              obtain ⟨A2247, c2248, hv2249⟩ := hs.matRow (i := 3) rfl hi2246q
              refine qY hf rfl rfl rfl (Y_index rfl rfl rfl el40 ti28 (Rd.isAt (hs.rdV (i := 3) rfl) hv2249) hi2246a (ltn hn21 hi2246b)) ?_; clear hf; intro a hf
              refine qY hf rfl rfl rfl (Y_load_rd rfl rfl (fun w hs => hs.rdV (i := 3) rfl) (at1 hv2249) ag28) ?_; clear hf; intro a hf
              refine qY hf rfl rfl rfl (Y_move rfl rfl) ?_; clear hf; intro a hf
              obtain ⟨q2250, hi2251, hj2244⟩ := bind_some hj2244
              obtain ⟨hi2251a, hi2251b, hi2251q⟩ := idx_some hi2251
              refine qY hf rfl rfl rfl (Y_index rfl rfl rfl el28 ti2 (Rd.isAt (hs.rdRow (i := 3) rfl ⟨hi2246q, hv2249⟩) (at1 (ints_at hi2251q))) hi2251a hi2251b) ?_; clear hf; intro a hf
              refine qY hf rfl rfl rfl (Y_load_rd rfl rfl (fun w hs => hs.rdRow (i := 3) rfl ⟨hi2246q, hv2249⟩) (at1 (ints_at hi2251q)) ag2) ?_; clear hf; intro a hf
              refine qY hf rfl rfl rfl (Y_move rfl rfl) ?_; clear hf; intro a hf
              refine qY hf rfl rfl rfl (Y_neq rfl rfl rfl) ?_; clear hf; intro a hf
              refine qY hf rfl rfl rfl (Y_move rfl rfl) ?_; clear hf; intro a hf
              refine bsplit (q2250 != x2198) (fun hb2252 => ?_) (fun hb2252 => ?_)
              ·have hj2244 := bif_t hj2244 hb2252
               refine qNo hf rfl rfl rfl (congrArg (fun b => some (Value.bool b)) hb2252) rfl rfl rfl ?_; clear hf; intro a hf
               refine qNo hf rfl rfl rfl (congrArg (fun b => some (Value.bool b)) hb2252) rfl rfl rfl ?_; clear hf; intro a hf
               refine qNo hf rfl rfl rfl (congrArg (fun b => some (Value.bool b)) hb2252) rfl rfl rfl ?_; clear hf; intro a hf
               refine qNo hf rfl rfl rfl (congrArg (fun b => some (Value.bool b)) hb2252) rfl rfl rfl ?_; clear hf; intro a hf
               refine qNo hf rfl rfl rfl (congrArg (fun b => some (Value.bool b)) hb2252) rfl rfl rfl ?_; clear hf; intro a hf
               refine qNo hf rfl rfl rfl (congrArg (fun b => some (Value.bool b)) hb2252) rfl rfl rfl ?_; clear hf; intro a hf
               refine qNo hf rfl rfl rfl (congrArg (fun b => some (Value.bool b)) hb2252) rfl rfl rfl ?_; clear hf; intro a hf
               refine qNo hf rfl rfl rfl (congrArg (fun b => some (Value.bool b)) hb2252) rfl rfl rfl ?_; clear hf; intro a hf
               refine qNo hf rfl rfl rfl (congrArg (fun b => some (Value.bool b)) hb2252) rfl rfl rfl ?_; clear hf; intro a hf
               refine qNo hf rfl rfl rfl (congrArg (fun b => some (Value.bool b)) hb2252) rfl rfl rfl ?_; clear hf; intro a hf
               refine qNo hf rfl rfl rfl (congrArg (fun b => some (Value.bool b)) hb2252) rfl rfl rfl ?_; clear hf; intro a hf
               refine qNo hf rfl rfl rfl (congrArg (fun b => some (Value.bool b)) hb2252) rfl rfl rfl ?_; clear hf; intro a hf
               refine qNo hf rfl rfl rfl (congrArg (fun b => some (Value.bool b)) hb2252) rfl rfl rfl ?_; clear hf; intro a hf
               refine qNo hf rfl rfl rfl (congrArg (fun b => some (Value.bool b)) hb2252) rfl rfl rfl ?_; clear hf; intro a hf
               refine qNo hf rfl rfl rfl (congrArg (fun b => some (Value.bool b)) hb2252) rfl rfl rfl ?_; clear hf; intro a hf
               refine qNo hf rfl rfl rfl (congrArg (fun b => some (Value.bool b)) hb2252) rfl rfl rfl ?_; clear hf; intro a hf
               refine qNo hf rfl rfl rfl (congrArg (fun b => some (Value.bool b)) hb2252) rfl rfl rfl ?_; clear hf; intro a hf
               refine qNo hf rfl rfl rfl (congrArg (fun b => some (Value.bool b)) hb2252) rfl rfl rfl ?_; clear hf; intro a hf
               refine qNo hf rfl rfl rfl (congrArg (fun b => some (Value.bool b)) hb2252) rfl rfl rfl ?_; clear hf; intro a hf
               refine qY hf rfl rfl rfl (Y_pickT rfl (congrArg (fun b => some (Value.bool b)) hb2252) rfl) ?_; clear hf; intro a hf
               refine qNil ?_; clear hs; intro w hs
               refine wpL_nil (then_normal ?_)
               exact ⟨true, Option.some.inj hj2244, (FrD.pick (FrD.pick (FrD.pick (FrD.pick (FrD.pick (FrD.pick (FrD.pick (FrD.pick (FrD.pick hf.none hf rfl) hf rfl) hf rfl) hf rfl) hf rfl) hf rfl) hf rfl) hf rfl) hf rfl), hs⟩
              ·have hj2244 := bif_f hj2244 hb2252
               refine qYg hf rfl rfl rfl (congrArg (fun b => some (Value.bool b)) hb2252) rfl rfl rfl (Y_move rfl rfl) ?_; clear hf; intro a hf
               refine qYg hf rfl rfl rfl (congrArg (fun b => some (Value.bool b)) hb2252) rfl rfl rfl (Y_move rfl rfl) ?_; clear hf; intro a hf
               refine qYg hf rfl rfl rfl (congrArg (fun b => some (Value.bool b)) hb2252) rfl rfl rfl (Y_sub rfl rfl rfl) ?_; clear hf; intro a hf
               obtain ⟨q2253, hi2254, hj2244⟩ := bind_some hj2244
               obtain ⟨hi2254a, hi2254b, hi2254q⟩ := idx_some hi2254
               obtain ⟨A2255, c2256, hv2257⟩ := hs.matRow (i := 4) rfl hi2254q
               refine qYg hf rfl rfl rfl (congrArg (fun b => some (Value.bool b)) hb2252) rfl rfl rfl (Y_index rfl rfl rfl el40 ti28 (Rd.isAt (hs.rdV (i := 4) rfl) hv2257) hi2254a (ltn hn35 hi2254b)) ?_; clear hf; intro a hf
               refine qYg hf rfl rfl rfl (congrArg (fun b => some (Value.bool b)) hb2252) rfl rfl rfl (Y_load_rd rfl rfl (fun w hs => hs.rdV (i := 4) rfl) (at1 hv2257) ag28) ?_; clear hf; intro a hf
               refine qYg hf rfl rfl rfl (congrArg (fun b => some (Value.bool b)) hb2252) rfl rfl rfl (Y_move rfl rfl) ?_; clear hf; intro a hf
               obtain ⟨q2258, hi2259, hj2244⟩ := bind_some hj2244
               obtain ⟨hi2259a, hi2259b, hi2259q⟩ := idx_some hi2259
               refine qYg hf rfl rfl rfl (congrArg (fun b => some (Value.bool b)) hb2252) rfl rfl rfl (Y_index rfl rfl rfl el28 ti2 (Rd.isAt (hs.rdRow (i := 4) rfl ⟨hi2254q, hv2257⟩) (at1 (ints_at hi2259q))) hi2259a hi2259b) ?_; clear hf; intro a hf
               refine qYg hf rfl rfl rfl (congrArg (fun b => some (Value.bool b)) hb2252) rfl rfl rfl (Y_load_rd rfl rfl (fun w hs => hs.rdRow (i := 4) rfl ⟨hi2254q, hv2257⟩) (at1 (ints_at hi2259q)) ag2) ?_; clear hf; intro a hf
               refine qYg hf rfl rfl rfl (congrArg (fun b => some (Value.bool b)) hb2252) rfl rfl rfl (Y_move rfl rfl) ?_; clear hf; intro a hf
               refine qYg hf rfl rfl rfl (congrArg (fun b => some (Value.bool b)) hb2252) rfl rfl rfl (Y_move rfl rfl) ?_; clear hf; intro a hf
               refine qYg hf rfl rfl rfl (congrArg (fun b => some (Value.bool b)) hb2252) rfl rfl rfl (Y_move rfl rfl) ?_; clear hf; intro a hf
               refine qYg hf rfl rfl rfl (congrArg (fun b => some (Value.bool b)) hb2252) rfl rfl rfl (Y_sub rfl rfl rfl) ?_; clear hf; intro a hf
               obtain ⟨q2260, hi2261, hj2244⟩ := bind_some hj2244
               obtain ⟨hi2261a, hi2261b, hi2261q⟩ := idx_some hi2261
               obtain ⟨A2262, c2263, hv2264⟩ := hs.matRow (i := 5) rfl hi2261q
               refine qYg hf rfl rfl rfl (congrArg (fun b => some (Value.bool b)) hb2252) rfl rfl rfl (Y_index rfl rfl rfl el40 ti28 (Rd.isAt (hs.rdV (i := 5) rfl) hv2264) hi2261a (ltn hn103 hi2261b)) ?_; clear hf; intro a hf
               refine qYg hf rfl rfl rfl (congrArg (fun b => some (Value.bool b)) hb2252) rfl rfl rfl (Y_load_rd rfl rfl (fun w hs => hs.rdV (i := 5) rfl) (at1 hv2264) ag28) ?_; clear hf; intro a hf
               refine qYg hf rfl rfl rfl (congrArg (fun b => some (Value.bool b)) hb2252) rfl rfl rfl (Y_move rfl rfl) ?_; clear hf; intro a hf
               obtain ⟨q2265, hi2266, hj2244⟩ := bind_some hj2244
               obtain ⟨hi2266a, hi2266b, hi2266q⟩ := idx_some hi2266
               refine qYg hf rfl rfl rfl (congrArg (fun b => some (Value.bool b)) hb2252) rfl rfl rfl (Y_index rfl rfl rfl el28 ti2 (Rd.isAt (hs.rdRow (i := 5) rfl ⟨hi2261q, hv2264⟩) (at1 (ints_at hi2266q))) hi2266a hi2266b) ?_; clear hf; intro a hf
               refine qYg hf rfl rfl rfl (congrArg (fun b => some (Value.bool b)) hb2252) rfl rfl rfl (Y_load_rd rfl rfl (fun w hs => hs.rdRow (i := 5) rfl ⟨hi2261q, hv2264⟩) (at1 (ints_at hi2266q)) ag2) ?_; clear hf; intro a hf
               refine qYg hf rfl rfl rfl (congrArg (fun b => some (Value.bool b)) hb2252) rfl rfl rfl (Y_sub rfl rfl rfl) ?_; clear hf; intro a hf
               refine qYg hf rfl rfl rfl (congrArg (fun b => some (Value.bool b)) hb2252) rfl rfl rfl (Y_neq rfl rfl rfl) ?_; clear hf; intro a hf
               refine qY hf rfl rfl rfl (Y_pickF rfl (congrArg (fun b => some (Value.bool b)) hb2252) rfl) ?_; clear hf; intro a hf
               refine qNil ?_; clear hs; intro w hs
               refine wpL_nil (then_normal ?_)
               exact ⟨(q2258 != (IntKind.i64.wrap (x2198 - q2265))), Option.some.inj hj2244, (FrD.pick (FrD.pick (FrD.pick (FrD.pick (FrD.pick (FrD.pick (FrD.pick (FrD.pick (FrD.pick hf.none hf rfl) hf rfl) hf rfl) hf rfl) hf rfl) hf rfl) hf rfl) hf rfl) hf rfl), hs⟩
             ·rintro a w ⟨b2242, hr_, hf, hs⟩
              subst hr_
              try dsimp only at hm2133
              refine wpL_cond hf rfl (fun hb2267 => ?_) (fun hb2267 => ?_)
              ·have hm2133 := bif_t hm2133 hb2267
               refine wpL_seq <| wpL_region ?_
               refine sY hf hs rfl rfl rfl (Y_assign rfl rfl) ?_; clear hf; intro a hf
               refine wpO_nil ?_
               obtain rfl := Option.some.inj hm2133
               try dsimp only at hm1727
               obtain rfl := Option.some.inj hm1727
               try dsimp only at hm
               obtain rfl := Option.some.inj hm
               refine wpL_ret (Qb_ret (Ql_ret (Qb_ret (Qb_ret (Ql_ret (Qb_ret (ret_tmp rfl hf rfl ?_)))))))
               exact ⟨_, rfl, rfl, hs.sel [] (by decide)⟩
              ·have hm2133 := bif_f hm2133 hb2267
               refine wpL_skip ?_
               refine wpL_nil (Qb_normal ?_)
               refine wpL_region ?_
               refine sY hf hs rfl rfl rfl (Y_move rfl rfl) ?_; clear hf; intro a hf
               refine sY hf hs rfl rfl rfl (Y_add rfl rfl rfl) ?_; clear hf; intro a hf
               refine sY hf hs rfl rfl rfl (Y_assign rfl rfl) ?_; clear hf; intro a hf
               refine wpO_nil ?_
               refine wpL_nil (Ql_normal ?_)
               exact ⟨(IntKind.i64.wrap (x1997 + 1)), hm2133, (FrD.pick (FrD.pick (FrD.pick (FrD.pick (FrD.pick (FrD.pick (FrD.pick (FrD.pick hf.none hf rfl) hf rfl) hf rfl) hf rfl) hf rfl) hf rfl) hf rfl) hf rfl), hs⟩
           ·have hm2133 := bif_f hm2133 hb2135
            refine wpL_exit (Ql_exit (Qb_exit ?_))
            exact ⟨Option.some.inj hm2133, (FrD.pick (FrD.pick (FrD.pick (FrD.pick (FrD.pick (FrD.pick (FrD.pick hf.none hf rfl) hf rfl) hf rfl) hf rfl) hf rfl) hf rfl) hf rfl), hs⟩
         ·rintro a w ⟨hr_, hf, hs⟩
          subst hr_
          try dsimp only at hm1727
          refine wpL_nil (Qb_normal ?_)
          refine wpL_region ?_
          refine sY hf hs rfl rfl rfl (Y_move rfl rfl) ?_; clear hf; intro a hf
          refine sY hf hs rfl rfl rfl (Y_add rfl rfl rfl) ?_; clear hf; intro a hf
          refine sY hf hs rfl rfl rfl (Y_assign rfl rfl) ?_; clear hf; intro a hf
          refine wpO_nil ?_
          refine wpL_nil (Ql_normal ?_)
          exact ⟨(IntKind.i64.wrap (x1185 + 1)), hm1727, (FrD.pick (FrD.pick (FrD.pick (FrD.pick (FrD.pick (FrD.pick (FrD.pick hf.none hf rfl) hf rfl) hf rfl) hf rfl) hf rfl) hf rfl) hf rfl), hs⟩
        ·have hm1727 := bif_f hm1727 hb1729
         refine wpL_exit (Ql_exit (Qb_exit ?_))
         exact ⟨Option.some.inj hm1727, hf.none, hs.sel [] (by decide)⟩
      ·rintro a w ⟨hr_, hf, hs⟩
       subst hr_
       try dsimp only at hm
       refine wpL_seq <| wpL_region ?_
       refine sY hf hs rfl rfl rfl (Y_assign rfl rfl) ?_; clear hf; intro a hf
       refine wpO_nil ?_
       obtain rfl := Option.some.inj hm
       refine wpL_ret (ret_tmp rfl hf rfl ?_)
       exact ⟨_, rfl, rfl, hs⟩

end Go.Proofs.Ytebmlphobgaboab
