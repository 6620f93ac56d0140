/- The functions do what their models say. -/
import Derived.Test.YtebmlphobgaboaaDueLifted4
import Derived.Test.YtebmlphobgaboaaRows
namespace Go.Proofs.Ytebmlphobgaboaa
open Go.RowKit

set_option maxHeartbeats 2000000 in
set_option maxRecDepth 100000 in
theorem laws_FnDue_ok (F : Nat) (p0 : List Int) (ai : Option Addr) (aL aj : Nat) (bo : aL = p0.length) (r : Bool) (W : World) (hm : laws_FnDue F p0 = some r) (aJ : Rd W ai (bytes p0)) :
  Calls Try.prog 8 [.slice ai aL aj].toArray W fun e w' => ∃ v, e = .returned v ∧ v = .bool r ∧ St [] W w' [] := by
 subst bo
 unfold laws_FnDue at hm
 refine Calls.enter (N := 145) Try.func8 rfl rfl rfl (fun a hf => ?_)
 have hs := St.start W
 obtain ⟨w, hw_⟩ : ∃ w, w = W := ⟨W, rfl⟩
 clear hw_ w
 refine wpL_seq <| wpL_region ?_
 refine sY hf hs rfl rfl rfl (Y_assign rfl rfl) ?_; clear hf; intro a hf
 refine wpO_nil <| wpL_seq <| wpL_seq <| wpL_region ?_
 refine sY hf hs rfl rfl rfl (Y_move rfl rfl) ?_; clear hf; intro a hf
 obtain ⟨r1, hc2, hm⟩ := bind_some hm
 refine sCall hf rfl rfl rfl rfl (cap := []) rfl rfl en31 (laws_big_ok F p0 ai p0.length aj rfl _ _ hc2 (aJ.at hs)) ?_; clear hf
 rintro _ w ⟨rfl, hs1⟩ a hf
 have hs : St [] W w [] := hs.ext hs1.below
 clear hs1
 refine wpO_nil ?_
 refine wpL_cond hf rfl (fun hb3 => ?_) (fun hb3 => ?_)
 ·have hm := bif_t hm hb3
  refine wpL_seq <| wpL_region ?_
  refine sY hf hs rfl rfl rfl (Y_assign rfl rfl) ?_; clear hf; intro a hf
  refine wpO_nil ?_
  obtain rfl := Option.some.inj hm
  refine wpL_ret (ret_tmp rfl hf rfl ?_)
  exact ⟨_, rfl, rfl, hs⟩
 ·have hm := bif_f hm hb3
  refine wpL_skip <| wpL_seq <| wpL_region ?_
  refine sY hf hs rfl rfl rfl (Y_move rfl rfl) ?_; clear hf; intro a hf
  obtain ⟨r4, hc5, hm⟩ := bind_some hm
  refine sCall hf rfl rfl rfl rfl (cap := []) rfl rfl en47 (spec_DrawCanMeet_ok F p0 ai p0.length aj rfl _ _ hc5 (aJ.at hs)) ?_; clear hf
  rintro _ w ⟨A6, n7, c8, A10, n11, c12, vs14, rfl, hn9, hn13, hs1⟩ a hf
  have hs : St [] W w [.row A6 n7 c8 112 4 ((recs GPlace.cells) r4.1.Places), .mat A10 n11 c12 23 2 vs14 r4.2] := hs.join hs1
  clear hs1
  refine sY hf hs rfl rfl rfl (Y_move rfl rfl) ?_; clear hf; intro a hf
  refine sY hf hs rfl rfl rfl (Y_extract rfl rfl rfl) ?_; clear hf; intro a hf
  refine sY hf hs rfl rfl rfl (Y_extract rfl rfl rfl) ?_; clear hf; intro a hf
  refine sAlloc hf hs rfl rfl rfl rfl ti52 ?_; clear hf hs; intro a w b15 hs hf
  have hs : St [] W w [.row A6 n7 c8 112 4 ((recs GPlace.cells) r4.1.Places), .mat A10 n11 c12 23 2 vs14 r4.2, .blk b15 52 [.int .i64 0, .slice none 0 0]] := hs
  refine sStore (i := 2) (us := [.int .i64 r4.1.Events, .slice A6 n7 c8]) hf hs rfl rfl rfl rfl rfl rfl ti52 rfl rfl rfl (Nat.le_of_ble_eq_true rfl) rfl ?_; clear hs; intro w hs
  have hs : St [] W w [.row A6 n7 c8 112 4 ((recs GPlace.cells) r4.1.Places), .mat A10 n11 c12 23 2 vs14 r4.2, .blk b15 52 [.int .i64 r4.1.Events, .slice A6 n7 c8]] := hs
  refine sY hf hs rfl rfl rfl (Y_assign rfl rfl) ?_; clear hf; intro a hf
  refine wpO_nil <| wpL_seq <| wpL_region ?_
  refine sY hf hs rfl rfl rfl (Y_load_blkS rfl rfl (i := 2) rfl ag52 ti52 rfl) ?_; clear hf; intro a hf
  refine sY hf hs rfl rfl rfl (Y_move rfl rfl) ?_; clear hf; intro a hf
  obtain ⟨r16, hc17, hm⟩ := bind_some hm
  refine sCall hf rfl rfl rfl rfl (cap := []) rfl rfl en48 (impl_CanMeet_ok F (GEventGraph.mk r4.1.Events r4.1.Places) A6 n7 c8 hn9 r4.2 A10 n11 c12 hn13 _ _ hc17 (hs.rd (i := 0) rfl) (hs.rdM (i := 1) rfl)) ?_; clear hf
  rintro _ w ⟨rfl, hs1⟩ a hf
  have hs : St [] W w [.row A6 n7 c8 112 4 ((recs GPlace.cells) r4.1.Places), .mat A10 n11 c12 23 2 vs14 r4.2, .blk b15 52 [.int .i64 r4.1.Events, .slice A6 n7 c8]] := hs.ext hs1.below
  clear hs1
  refine sY hf hs rfl rfl rfl (Y_move rfl rfl) ?_; clear hf; intro a hf
  refine sY hf hs rfl rfl rfl (Y_extract rfl rfl rfl) ?_; clear hf; intro a hf
  refine sY hf hs rfl rfl rfl (Y_extract rfl rfl rfl) ?_; clear hf; intro a hf
  refine sY hf hs rfl rfl rfl (Y_assign rfl rfl) ?_; clear hf; intro a hf
  refine sY hf hs rfl rfl rfl (Y_assign rfl rfl) ?_; clear hf; intro a hf
  refine wpO_nil <| wpL_seq <| wpL_region ?_
  refine sY hf hs rfl rfl rfl (Y_load_blkS rfl rfl (i := 2) rfl ag52 ti52 rfl) ?_; clear hf; intro a hf
  refine sY hf hs rfl rfl rfl (Y_move rfl rfl) ?_; clear hf; intro a hf
  obtain ⟨r18, hc19, hm⟩ := bind_some hm
  refine sCall hf rfl rfl rfl rfl (cap := []) rfl rfl en49 (spec_CanMeet_ok F (GEventGraph.mk r4.1.Events r4.1.Places) A6 n7 c8 hn9 r4.2 A10 n11 c12 hn13 _ _ hc19 (hs.rd (i := 0) rfl) (hs.rdM (i := 1) rfl)) ?_; clear hf
  rintro _ w ⟨rfl, hs1⟩ a hf
  have hs : St [] W w [.row A6 n7 c8 112 4 ((recs GPlace.cells) r4.1.Places), .mat A10 n11 c12 23 2 vs14 r4.2, .blk b15 52 [.int .i64 r4.1.Events, .slice A6 n7 c8]] := hs.ext hs1.below
  clear hs1
  refine sY hf hs rfl rfl rfl (Y_move rfl rfl) ?_; clear hf; intro a hf
  refine sY hf hs rfl rfl rfl (Y_extract rfl rfl rfl) ?_; clear hf; intro a hf
  refine sY hf hs rfl rfl rfl (Y_extract rfl rfl rfl) ?_; clear hf; intro a hf
  refine sY hf hs rfl rfl rfl (Y_assign rfl rfl) ?_; clear hf; intro a hf
  refine sY hf hs rfl rfl rfl (Y_assign rfl rfl) ?_; clear hf; intro a hf
  refine wpO_nil <| wpL_seq <| wpL_region ?_
  refine sY hf hs rfl rfl rfl (Y_load_blkS rfl rfl (i := 2) rfl ag52 ti52 rfl) ?_; clear hf; intro a hf
  refine sY hf hs rfl rfl rfl (Y_move rfl rfl) ?_; clear hf; intro a hf
  obtain ⟨r20, hc21, hm⟩ := bind_some hm
  refine sCall hf rfl rfl rfl rfl (cap := []) rfl rfl en50 (impl_LateFirings_ok F (GEventGraph.mk r4.1.Events r4.1.Places) A6 n7 c8 hn9 r4.2 A10 n11 c12 hn13 _ _ hc21 (hs.rd (i := 0) rfl) (hs.rdM (i := 1) rfl)) ?_; clear hf
  rintro _ w ⟨A22, n23, c24, vs26, rfl, hn25, hs1⟩ a hf
  have hs : St [] W w [.row A6 n7 c8 112 4 ((recs GPlace.cells) r4.1.Places), .mat A10 n11 c12 23 2 vs14 r4.2, .blk b15 52 [.int .i64 r4.1.Events, .slice A6 n7 c8], .mat A22 n23 c24 23 2 vs26 r20.1] := hs.join hs1
  clear hs1
  refine sY hf hs rfl rfl rfl (Y_move rfl rfl) ?_; clear hf; intro a hf
  refine sY hf hs rfl rfl rfl (Y_extract rfl rfl rfl) ?_; clear hf; intro a hf
  refine sY hf hs rfl rfl rfl (Y_extract rfl rfl rfl) ?_; clear hf; intro a hf
  refine sY hf hs rfl rfl rfl (Y_assign rfl rfl) ?_; clear hf; intro a hf
  refine sY hf hs rfl rfl rfl (Y_assign rfl rfl) ?_; clear hf; intro a hf
  refine wpO_nil <| wpL_seq <| wpL_region ?_
  refine sY hf hs rfl rfl rfl (Y_load_blkS rfl rfl (i := 2) rfl ag52 ti52 rfl) ?_; clear hf; intro a hf
  refine sY hf hs rfl rfl rfl (Y_move rfl rfl) ?_; clear hf; intro a hf
  obtain ⟨r27, hc28, hm⟩ := bind_some hm
  refine sCall hf rfl rfl rfl rfl (cap := []) rfl rfl en51 (spec_LateFirings_ok F (GEventGraph.mk r4.1.Events r4.1.Places) A6 n7 c8 hn9 r4.2 A10 n11 c12 hn13 _ _ hc28 (hs.rd (i := 0) rfl) (hs.rdM (i := 1) rfl)) ?_; clear hf
  rintro _ w ⟨A29, n30, c31, vs33, rfl, hn32, hs1⟩ a hf
  have hs : St [] W w [.row A6 n7 c8 112 4 ((recs GPlace.cells) r4.1.Places), .mat A10 n11 c12 23 2 vs14 r4.2, .blk b15 52 [.int .i64 r4.1.Events, .slice A6 n7 c8], .mat A22 n23 c24 23 2 vs26 r20.1, .mat A29 n30 c31 23 2 vs33 r27.1] := hs.join hs1
  clear hs1
  refine sY hf hs rfl rfl rfl (Y_move rfl rfl) ?_; clear hf; intro a hf
  refine sY hf hs rfl rfl rfl (Y_extract rfl rfl rfl) ?_; clear hf; intro a hf
  refine sY hf hs rfl rfl rfl (Y_extract rfl rfl rfl) ?_; clear hf; intro a hf
  refine sY hf hs rfl rfl rfl (Y_assign rfl rfl) ?_; clear hf; intro a hf
  refine sY hf hs rfl rfl rfl (Y_assign rfl rfl) ?_; clear hf; intro a hf
  refine wpO_nil <| wpL_seq <| wpL_region ?_
  refine sY hf hs rfl rfl rfl (Y_load_blkS rfl rfl (i := 2) rfl ag52 ti52 rfl) ?_; clear hf; intro a hf
  refine sY hf hs rfl rfl rfl (Y_move rfl rfl) ?_; clear hf; intro a hf
  obtain ⟨r34, hc35, hm⟩ := bind_some hm
  refine sCall hf rfl rfl rfl rfl (cap := []) rfl rfl en52 (impl_CriticalFirings_ok F (GEventGraph.mk r4.1.Events r4.1.Places) A6 n7 c8 hn9 r4.2 A10 n11 c12 hn13 _ _ hc35 (hs.rd (i := 0) rfl) (hs.rdM (i := 1) rfl)) ?_; clear hf
  rintro _ w ⟨A36, n37, c38, vs40, rfl, hn39, hs1⟩ a hf
  have hs : St [] W w [.row A6 n7 c8 112 4 ((recs GPlace.cells) r4.1.Places), .mat A10 n11 c12 23 2 vs14 r4.2, .blk b15 52 [.int .i64 r4.1.Events, .slice A6 n7 c8], .mat A22 n23 c24 23 2 vs26 r20.1, .mat A29 n30 c31 23 2 vs33 r27.1, .mat A36 n37 c38 23 2 vs40 r34.1] := hs.join hs1
  clear hs1
  refine sY hf hs rfl rfl rfl (Y_move rfl rfl) ?_; clear hf; intro a hf
  refine sY hf hs rfl rfl rfl (Y_extract rfl rfl rfl) ?_; clear hf; intro a hf
  refine sY hf hs rfl rfl rfl (Y_extract rfl rfl rfl) ?_; clear hf; intro a hf
  refine sY hf hs rfl rfl rfl (Y_assign rfl rfl) ?_; clear hf; intro a hf
  refine sY hf hs rfl rfl rfl (Y_assign rfl rfl) ?_; clear hf; intro a hf
  refine wpO_nil <| wpL_seq <| wpL_region ?_
  refine sY hf hs rfl rfl rfl (Y_load_blkS rfl rfl (i := 2) rfl ag52 ti52 rfl) ?_; clear hf; intro a hf
  refine sY hf hs rfl rfl rfl (Y_move rfl rfl) ?_; clear hf; intro a hf
  obtain ⟨r41, hc42, hm⟩ := bind_some hm
  refine sCall hf rfl rfl rfl rfl (cap := []) rfl rfl en53 (spec_CriticalFirings_ok F (GEventGraph.mk r4.1.Events r4.1.Places) A6 n7 c8 hn9 r4.2 A10 n11 c12 hn13 _ _ hc42 (hs.rd (i := 0) rfl) (hs.rdM (i := 1) rfl)) ?_; clear hf
  rintro _ w ⟨A43, n44, c45, vs47, rfl, hn46, hs1⟩ a hf
  have hs : St [] W w [.row A6 n7 c8 112 4 ((recs GPlace.cells) r4.1.Places), .mat A10 n11 c12 23 2 vs14 r4.2, .blk b15 52 [.int .i64 r4.1.Events, .slice A6 n7 c8], .mat A22 n23 c24 23 2 vs26 r20.1, .mat A29 n30 c31 23 2 vs33 r27.1, .mat A36 n37 c38 23 2 vs40 r34.1, .mat A43 n44 c45 23 2 vs47 r41.1] := hs.join hs1
  clear hs1
  refine sY hf hs rfl rfl rfl (Y_move rfl rfl) ?_; clear hf; intro a hf
  refine sY hf hs rfl rfl rfl (Y_extract rfl rfl rfl) ?_; clear hf; intro a hf
  refine sY hf hs rfl rfl rfl (Y_extract rfl rfl rfl) ?_; clear hf; intro a hf
  refine sY hf hs rfl rfl rfl (Y_assign rfl rfl) ?_; clear hf; intro a hf
  refine sY hf hs rfl rfl rfl (Y_assign rfl rfl) ?_; clear hf; intro a hf
  refine wpO_nil <| wpL_seq <| wpL_seq ?_
  obtain ⟨r60, hj61, hm⟩ := bind_some hm
  refine wpL_cut (fun a w => ∃ b59 : Bool, b59 = r60 ∧ Fr a 145 [(3, .pointer (some ⟨b15, 0, none⟩)), (4, .slice A10 n11 c12), (5, .bool r16.1), (6, .int .i64 r16.2), (9, .slice A22 n23 c24), (13, .slice A36 n37 c38), (102, .bool b59)] ∧ St [] W w [.blk b15 52 [.int .i64 r4.1.Events, .slice A6 n7 c8], .row A6 n7 c8 112 4 ((recs GPlace.cells) r4.1.Places), .mat A10 n11 c12 23 2 vs14 r4.2, .mat A22 n23 c24 23 2 vs26 r20.1, .mat A36 n37 c38 23 2 vs40 r34.1]) ?_ ?_
  ·refine wpL_region ?_
   refine sY hf hs rfl rfl rfl (Y_move rfl rfl) ?_; clear hf; intro a hf
   refine sY hf hs rfl rfl rfl (Y_move rfl rfl) ?_; clear hf; intro a hf
   refine sY hf hs rfl rfl rfl (Y_neq rfl rfl rfl) ?_; clear hf; intro a hf
   refine sY hf hs rfl rfl rfl (Y_move rfl rfl) ?_; clear hf; intro a hf
   refine bsplit (r16.2 != r18.2) (fun hb62 => ?_) (fun hb62 => ?_)
   ·have hj61 := bif_t hj61 hb62
    refine sNo hf rfl rfl rfl (congrArg (fun b => some (Value.bool b)) hb62) rfl rfl rfl ?_; clear hf; intro a hf
    refine sNo hf rfl rfl rfl (congrArg (fun b => some (Value.bool b)) hb62) rfl rfl rfl ?_; clear hf; intro a hf
    refine sNo hf rfl rfl rfl (congrArg (fun b => some (Value.bool b)) hb62) rfl rfl rfl ?_; clear hf; intro a hf
    refine sY hf hs rfl rfl rfl (Y_pickT rfl (congrArg (fun b => some (Value.bool b)) hb62) rfl) ?_; clear hf; intro a hf
    refine sY hf hs rfl rfl rfl (Y_move rfl rfl) ?_; clear hf; intro a hf
    refine sNo hf rfl rfl rfl rfl rfl rfl rfl ?_; clear hf; intro a hf
    refine sNo hf rfl rfl rfl rfl rfl rfl rfl ?_; clear hf; intro a hf
    refine sNo hf rfl rfl rfl rfl rfl rfl rfl ?_; clear hf; intro a hf
    refine sY hf hs rfl rfl rfl (Y_pickT rfl rfl rfl) ?_; clear hf; intro a hf
    refine sY hf hs rfl rfl rfl (Y_move rfl rfl) ?_; clear hf; intro a hf
    refine sNo hf rfl rfl rfl rfl rfl rfl rfl ?_; clear hf; intro a hf
    refine sNo hf rfl rfl rfl rfl rfl rfl rfl ?_; clear hf; intro a hf
    refine sNo hf rfl rfl rfl rfl rfl rfl rfl ?_; clear hf; intro a hf
    refine sNo hf rfl rfl rfl rfl rfl rfl rfl ?_; clear hf; intro a hf
    refine sY hf hs rfl rfl rfl (Y_pickT rfl rfl rfl) ?_; clear hf; intro a hf
    refine sY hf hs rfl rfl rfl (Y_move rfl rfl) ?_; clear hf; intro a hf
    refine sNo hf rfl rfl rfl rfl rfl rfl rfl ?_; clear hf; intro a hf
    refine sNo hf rfl rfl rfl rfl rfl rfl rfl ?_; clear hf; intro a hf
    refine sNo hf rfl rfl rfl rfl rfl rfl rfl ?_; clear hf; intro a hf
    refine sY hf hs rfl rfl rfl (Y_pickT rfl rfl rfl) ?_; clear hf; intro a hf
    refine sY hf hs rfl rfl rfl (Y_move rfl rfl) ?_; clear hf; intro a hf
    refine sNo hf rfl rfl rfl rfl rfl rfl rfl ?_; clear hf; intro a hf
    refine sNo hf rfl rfl rfl rfl rfl rfl rfl ?_; clear hf; intro a hf
    refine sNo hf rfl rfl rfl rfl rfl rfl rfl ?_; clear hf; intro a hf
    refine sNo hf rfl rfl rfl rfl rfl rfl rfl ?_; clear hf; intro a hf
    refine sY hf hs rfl rfl rfl (Y_pickT rfl rfl rfl) ?_; clear hf; intro a hf
    refine sY hf hs rfl rfl rfl (Y_move rfl rfl) ?_; clear hf; intro a hf
    refine sNo hf rfl rfl rfl rfl rfl rfl rfl ?_; clear hf; intro a hf
    refine sNo hf rfl rfl rfl rfl rfl rfl rfl ?_; clear hf; intro a hf
    refine sNo hf rfl rfl rfl rfl rfl rfl rfl ?_; clear hf; intro a hf
    refine sY hf hs rfl rfl rfl (Y_pickT rfl rfl rfl) ?_; clear hf; intro a hf
    refine sY hf hs rfl rfl rfl (Y_move rfl rfl) ?_; clear hf; intro a hf
    refine sNo hf rfl rfl rfl rfl rfl rfl rfl ?_; clear hf; intro a hf
    refine sNo hf rfl rfl rfl rfl rfl rfl rfl ?_; clear hf; intro a hf
    refine sNo hf rfl rfl rfl rfl rfl rfl rfl ?_; clear hf; intro a hf
    refine sY hf hs rfl rfl rfl (Y_pickT rfl rfl rfl) ?_; clear hf; intro a hf
    refine wpO_nil ?_
    refine wpL_nil (then_normal ?_)
    exact ⟨true, Option.some.inj hj61, (FrD.pick (FrD.pick (FrD.pick (FrD.pick (FrD.pick (FrD.pick (FrD.pick hf.none hf rfl) hf rfl) hf rfl) hf rfl) hf rfl) hf rfl) hf rfl), hs.sel [2, 0, 1, 3, 5] (by decide)⟩
   ·have hj61 := bif_f hj61 hb62
    refine sYg hf hs rfl rfl rfl (congrArg (fun b => some (Value.bool b)) hb62) rfl rfl rfl (Y_move rfl rfl) ?_; clear hf; intro a hf
    refine sYg hf hs rfl rfl rfl (congrArg (fun b => some (Value.bool b)) hb62) rfl rfl rfl (Y_move rfl rfl) ?_; clear hf; intro a hf
    refine sYg hf hs rfl rfl rfl (congrArg (fun b => some (Value.bool b)) hb62) rfl rfl rfl (Y_neqB rfl rfl rfl Try.underlying4) ?_; clear hf; intro a hf
    refine sY hf hs rfl rfl rfl (Y_pickF rfl (congrArg (fun b => some (Value.bool b)) hb62) rfl) ?_; clear hf; intro a hf
    refine sY hf hs rfl rfl rfl (Y_move rfl rfl) ?_; clear hf; intro a hf
    refine bsplit (r16.1 != r18.1) (fun hb63 => ?_) (fun hb63 => ?_)
    ·have hj61 := bif_t hj61 hb63
     refine sNo hf rfl rfl rfl (congrArg (fun b => some (Value.bool b)) hb63) rfl rfl rfl ?_; clear hf; intro a hf
     refine sNo hf rfl rfl rfl (congrArg (fun b => some (Value.bool b)) hb63) rfl rfl rfl ?_; clear hf; intro a hf
     refine sNo hf rfl rfl rfl (congrArg (fun b => some (Value.bool b)) hb63) rfl rfl rfl ?_; clear hf; intro a hf
     refine sY hf hs rfl rfl rfl (Y_pickT rfl (congrArg (fun b => some (Value.bool b)) hb63) rfl) ?_; clear hf; intro a hf
     refine sY hf hs rfl rfl rfl (Y_move rfl rfl) ?_; clear hf; intro a hf
     refine sNo hf rfl rfl rfl rfl rfl rfl rfl ?_; clear hf; intro a hf
     refine sNo hf rfl rfl rfl rfl rfl rfl rfl ?_; clear hf; intro a hf
     refine sNo hf rfl rfl rfl rfl rfl rfl rfl ?_; clear hf; intro a hf
     refine sNo hf rfl rfl rfl rfl rfl rfl rfl ?_; clear hf; intro a hf
     refine sY hf hs rfl rfl rfl (Y_pickT rfl rfl rfl) ?_; clear hf; intro a hf
     refine sY hf hs rfl rfl rfl (Y_move rfl rfl) ?_; clear hf; intro a hf
     refine sNo hf rfl rfl rfl rfl rfl rfl rfl ?_; clear hf; intro a hf
     refine sNo hf rfl rfl rfl rfl rfl rfl rfl ?_; clear hf; intro a hf
     refine sNo hf rfl rfl rfl rfl rfl rfl rfl ?_; clear hf; intro a hf
     refine sY hf hs rfl rfl rfl (Y_pickT rfl rfl rfl) ?_; clear hf; intro a hf
     refine sY hf hs rfl rfl rfl (Y_move rfl rfl) ?_; clear hf; intro a hf
     refine sNo hf rfl rfl rfl rfl rfl rfl rfl ?_; clear hf; intro a hf
     refine sNo hf rfl rfl rfl rfl rfl rfl rfl ?_; clear hf; intro a hf
     refine sNo hf rfl rfl rfl rfl rfl rfl rfl ?_; clear hf; intro a hf
     refine sNo hf rfl rfl rfl rfl rfl rfl rfl ?_; clear hf; intro a hf
     refine sY hf hs rfl rfl rfl (Y_pickT rfl rfl rfl) ?_; clear hf; intro a hf
     refine sY hf hs rfl rfl rfl (Y_move rfl rfl) ?_; clear hf; intro a hf
     refine sNo hf rfl rfl rfl rfl rfl rfl rfl ?_; clear hf; intro a hf
     refine sNo hf rfl rfl rfl rfl rfl rfl rfl ?_; clear hf; intro a hf
     refine sNo hf rfl rfl rfl rfl rfl rfl rfl ?_; clear hf; intro a hf
     refine sY hf hs rfl rfl rfl (Y_pickT rfl rfl rfl) ?_; clear hf; intro a hf
     refine sY hf hs rfl rfl rfl (Y_move rfl rfl) ?_; clear hf; intro a hf
     refine sNo hf rfl rfl rfl rfl rfl rfl rfl ?_; clear hf; intro a hf
     refine sNo hf rfl rfl rfl rfl rfl rfl rfl ?_; clear hf; intro a hf
     refine sNo hf rfl rfl rfl rfl rfl rfl rfl ?_; clear hf; intro a hf
     refine sY hf hs rfl rfl rfl (Y_pickT rfl rfl rfl) ?_; clear hf; intro a hf
     refine wpO_nil ?_
     refine wpL_nil (then_normal ?_)
     exact ⟨true, Option.some.inj hj61, (FrD.pick (FrD.pick (FrD.pick (FrD.pick (FrD.pick (FrD.pick (FrD.pick hf.none hf rfl) hf rfl) hf rfl) hf rfl) hf rfl) hf rfl) hf rfl), hs.sel [2, 0, 1, 3, 5] (by decide)⟩
    ·have hj61 := bif_f hj61 hb63
     refine sYg hf hs rfl rfl rfl (congrArg (fun b => some (Value.bool b)) hb63) rfl rfl rfl (Y_move rfl rfl) ?_; clear hf; intro a hf
     refine sYg hf hs rfl rfl rfl (congrArg (fun b => some (Value.bool b)) hb63) rfl rfl rfl (Y_move rfl rfl) ?_; clear hf; intro a hf
     refine sYg hf hs rfl rfl rfl (congrArg (fun b => some (Value.bool b)) hb63) rfl rfl rfl (Y_neq rfl rfl rfl) ?_; clear hf; intro a hf
     refine sY hf hs rfl rfl rfl (Y_pickF rfl (congrArg (fun b => some (Value.bool b)) hb63) rfl) ?_; clear hf; intro a hf
     refine sY hf hs rfl rfl rfl (Y_move rfl rfl) ?_; clear hf; intro a hf
     refine bsplit (r20.2 != r27.2) (fun hb64 => ?_) (fun hb64 => ?_)
     ·have hj61 := bif_t hj61 hb64
      refine sNo hf rfl rfl rfl (congrArg (fun b => some (Value.bool b)) hb64) rfl rfl rfl ?_; clear hf; intro a hf
      refine sNo hf rfl rfl rfl (congrArg (fun b => some (Value.bool b)) hb64) rfl rfl rfl ?_; clear hf; intro a hf
      refine sNo hf rfl rfl rfl (congrArg (fun b => some (Value.bool b)) hb64) rfl rfl rfl ?_; clear hf; intro a hf
      refine sNo hf rfl rfl rfl (congrArg (fun b => some (Value.bool b)) hb64) rfl rfl rfl ?_; clear hf; intro a hf
      refine sY hf hs rfl rfl rfl (Y_pickT rfl (congrArg (fun b => some (Value.bool b)) hb64) rfl) ?_; clear hf; intro a hf
      refine sY hf hs rfl rfl rfl (Y_move rfl rfl) ?_; clear hf; intro a hf
      refine sNo hf rfl rfl rfl rfl rfl rfl rfl ?_; clear hf; intro a hf
      refine sNo hf rfl rfl rfl rfl rfl rfl rfl ?_; clear hf; intro a hf
      refine sNo hf rfl rfl rfl rfl rfl rfl rfl ?_; clear hf; intro a hf
      refine sY hf hs rfl rfl rfl (Y_pickT rfl rfl rfl) ?_; clear hf; intro a hf
      refine sY hf hs rfl rfl rfl (Y_move rfl rfl) ?_; clear hf; intro a hf
      refine sNo hf rfl rfl rfl rfl rfl rfl rfl ?_; clear hf; intro a hf
      refine sNo hf rfl rfl rfl rfl rfl rfl rfl ?_; clear hf; intro a hf
      refine sNo hf rfl rfl rfl rfl rfl rfl rfl ?_; clear hf; intro a hf
      refine sNo hf rfl rfl rfl rfl rfl rfl rfl ?_; clear hf; intro a hf
      refine sY hf hs rfl rfl rfl (Y_pickT rfl rfl rfl) ?_; clear hf; intro a hf
      refine sY hf hs rfl rfl rfl (Y_move rfl rfl) ?_; clear hf; intro a hf
      refine sNo hf rfl rfl rfl rfl rfl rfl rfl ?_; clear hf; intro a hf
      refine sNo hf rfl rfl rfl rfl rfl rfl rfl ?_; clear hf; intro a hf
      refine sNo hf rfl rfl rfl rfl rfl rfl rfl ?_; clear hf; intro a hf
      refine sY hf hs rfl rfl rfl (Y_pickT rfl rfl rfl) ?_; clear hf; intro a hf
      refine sY hf hs rfl rfl rfl (Y_move rfl rfl) ?_; clear hf; intro a hf
      refine sNo hf rfl rfl rfl rfl rfl rfl rfl ?_; clear hf; intro a hf
      refine sNo hf rfl rfl rfl rfl rfl rfl rfl ?_; clear hf; intro a hf
      refine sNo hf rfl rfl rfl rfl rfl rfl rfl ?_; clear hf; intro a hf
      refine sY hf hs rfl rfl rfl (Y_pickT rfl rfl rfl) ?_; clear hf; intro a hf
      refine wpO_nil ?_
      refine wpL_nil (then_normal ?_)
      exact ⟨true, Option.some.inj hj61, (FrD.pick (FrD.pick (FrD.pick (FrD.pick (FrD.pick (FrD.pick (FrD.pick hf.none hf rfl) hf rfl) hf rfl) hf rfl) hf rfl) hf rfl) hf rfl), hs.sel [2, 0, 1, 3, 5] (by decide)⟩
     ·have hj61 := bif_f hj61 hb64
      refine sYg hf hs rfl rfl rfl (congrArg (fun b => some (Value.bool b)) hb64) rfl rfl rfl (Y_move rfl rfl) ?_; clear hf; intro a hf
      refine sYg hf hs rfl rfl rfl (congrArg (fun b => some (Value.bool b)) hb64) rfl rfl rfl (Y_move rfl rfl) ?_; clear hf; intro a hf
      obtain ⟨r65, hc66, hj61⟩ := bind_some hj61
      refine sCallg hf rfl rfl rfl (congrArg (fun b => some (Value.bool b)) hb64) rfl rfl rfl rfl (cap := []) rfl rfl en54 (laws_likeTables9_ok F r20.1 A22 n23 c24 hn25 r27.1 A29 n30 c31 hn32 _ _ hc66 (hs.rdM (i := 3) rfl) (hs.rdM (i := 4) rfl)) ?_; clear hf
      rintro _ w ⟨rfl, hs1⟩ a hf
      have hs : St [] W w [.row A6 n7 c8 112 4 ((recs GPlace.cells) r4.1.Places), .mat A10 n11 c12 23 2 vs14 r4.2, .blk b15 52 [.int .i64 r4.1.Events, .slice A6 n7 c8], .mat A22 n23 c24 23 2 vs26 r20.1, .mat A29 n30 c31 23 2 vs33 r27.1, .mat A36 n37 c38 23 2 vs40 r34.1, .mat A43 n44 c45 23 2 vs47 r41.1] := hs.ext hs1.below
      clear hs1
      refine sYg hf hs rfl rfl rfl (congrArg (fun b => some (Value.bool b)) hb64) rfl rfl rfl (Y_not rfl rfl) ?_; clear hf; intro a hf
      refine sY hf hs rfl rfl rfl (Y_pickF rfl (congrArg (fun b => some (Value.bool b)) hb64) rfl) ?_; clear hf; intro a hf
      refine sY hf hs rfl rfl rfl (Y_move rfl rfl) ?_; clear hf; intro a hf
      refine bsplit (!r65) (fun hb67 => ?_) (fun hb67 => ?_)
      ·have hj61 := bif_t hj61 hb67
       refine sNo hf rfl rfl rfl (congrArg (fun b => some (Value.bool b)) hb67) rfl rfl rfl ?_; clear hf; intro a hf
       refine sNo hf rfl rfl rfl (congrArg (fun b => some (Value.bool b)) hb67) rfl rfl rfl ?_; clear hf; intro a hf
       refine sNo hf rfl rfl rfl (congrArg (fun b => some (Value.bool b)) hb67) rfl rfl rfl ?_; clear hf; intro a hf
       refine sY hf hs rfl rfl rfl (Y_pickT rfl (congrArg (fun b => some (Value.bool b)) hb67) rfl) ?_; clear hf; intro a hf
       refine sY hf hs rfl rfl rfl (Y_move rfl rfl) ?_; clear hf; intro a hf
       refine sNo hf rfl rfl rfl rfl rfl rfl rfl ?_; clear hf; intro a hf
       refine sNo hf rfl rfl rfl rfl rfl rfl rfl ?_; clear hf; intro a hf
       refine sNo hf rfl rfl rfl rfl rfl rfl rfl ?_; clear hf; intro a hf
       refine sNo hf rfl rfl rfl rfl rfl rfl rfl ?_; clear hf; intro a hf
       refine sY hf hs rfl rfl rfl (Y_pickT rfl rfl rfl) ?_; clear hf; intro a hf
       refine sY hf hs rfl rfl rfl (Y_move rfl rfl) ?_; clear hf; intro a hf
       refine sNo hf rfl rfl rfl rfl rfl rfl rfl ?_; clear hf; intro a hf
       refine sNo hf rfl rfl rfl rfl rfl rfl rfl ?_; clear hf; intro a hf
       refine sNo hf rfl rfl rfl rfl rfl rfl rfl ?_; clear hf; intro a hf
       refine sY hf hs rfl rfl rfl (Y_pickT rfl rfl rfl) ?_; clear hf; intro a hf
       refine sY hf hs rfl rfl rfl (Y_move rfl rfl) ?_; clear hf; intro a hf
       refine sNo hf rfl rfl rfl rfl rfl rfl rfl ?_; clear hf; intro a hf
       refine sNo hf rfl rfl rfl rfl rfl rfl rfl ?_; clear hf; intro a hf
       refine sNo hf rfl rfl rfl rfl rfl rfl rfl ?_; clear hf; intro a hf
       refine sY hf hs rfl rfl rfl (Y_pickT rfl rfl rfl) ?_; clear hf; intro a hf
       refine wpO_nil ?_
       refine wpL_nil (then_normal ?_)
       exact ⟨true, Option.some.inj hj61, (FrD.pick (FrD.pick (FrD.pick (FrD.pick (FrD.pick (FrD.pick (FrD.pick hf.none hf rfl) hf rfl) hf rfl) hf rfl) hf rfl) hf rfl) hf rfl), hs.sel [2, 0, 1, 3, 5] (by decide)⟩
      ·have hj61 := bif_f hj61 hb67
       refine sYg hf hs rfl rfl rfl (congrArg (fun b => some (Value.bool b)) hb67) rfl rfl rfl (Y_move rfl rfl) ?_; clear hf; intro a hf
       refine sYg hf hs rfl rfl rfl (congrArg (fun b => some (Value.bool b)) hb67) rfl rfl rfl (Y_move rfl rfl) ?_; clear hf; intro a hf
       refine sYg hf hs rfl rfl rfl (congrArg (fun b => some (Value.bool b)) hb67) rfl rfl rfl (Y_neq rfl rfl rfl) ?_; clear hf; intro a hf
       refine sY hf hs rfl rfl rfl (Y_pickF rfl (congrArg (fun b => some (Value.bool b)) hb67) rfl) ?_; clear hf; intro a hf
       refine sY hf hs rfl rfl rfl (Y_move rfl rfl) ?_; clear hf; intro a hf
       refine bsplit (r34.2 != r41.2) (fun hb68 => ?_) (fun hb68 => ?_)
       ·have hj61 := bif_t hj61 hb68
        refine sNo hf rfl rfl rfl (congrArg (fun b => some (Value.bool b)) hb68) rfl rfl rfl ?_; clear hf; intro a hf
        refine sNo hf rfl rfl rfl (congrArg (fun b => some (Value.bool b)) hb68) rfl rfl rfl ?_; clear hf; intro a hf
        refine sNo hf rfl rfl rfl (congrArg (fun b => some (Value.bool b)) hb68) rfl rfl rfl ?_; clear hf; intro a hf
        refine sNo hf rfl rfl rfl (congrArg (fun b => some (Value.bool b)) hb68) rfl rfl rfl ?_; clear hf; intro a hf
        refine sY hf hs rfl rfl rfl (Y_pickT rfl (congrArg (fun b => some (Value.bool b)) hb68) rfl) ?_; clear hf; intro a hf
        refine sY hf hs rfl rfl rfl (Y_move rfl rfl) ?_; clear hf; intro a hf
        refine sNo hf rfl rfl rfl rfl rfl rfl rfl ?_; clear hf; intro a hf
        refine sNo hf rfl rfl rfl rfl rfl rfl rfl ?_; clear hf; intro a hf
        refine sNo hf rfl rfl rfl rfl rfl rfl rfl ?_; clear hf; intro a hf
        refine sY hf hs rfl rfl rfl (Y_pickT rfl rfl rfl) ?_; clear hf; intro a hf
        refine sY hf hs rfl rfl rfl (Y_move rfl rfl) ?_; clear hf; intro a hf
        refine sNo hf rfl rfl rfl rfl rfl rfl rfl ?_; clear hf; intro a hf
        refine sNo hf rfl rfl rfl rfl rfl rfl rfl ?_; clear hf; intro a hf
        refine sNo hf rfl rfl rfl rfl rfl rfl rfl ?_; clear hf; intro a hf
        refine sY hf hs rfl rfl rfl (Y_pickT rfl rfl rfl) ?_; clear hf; intro a hf
        refine wpO_nil ?_
        refine wpL_nil (then_normal ?_)
        exact ⟨true, Option.some.inj hj61, (FrD.pick (FrD.pick (FrD.pick (FrD.pick (FrD.pick (FrD.pick (FrD.pick hf.none hf rfl) hf rfl) hf rfl) hf rfl) hf rfl) hf rfl) hf rfl), hs.sel [2, 0, 1, 3, 5] (by decide)⟩
       ·have hj61 := bif_f hj61 hb68
        refine sYg hf hs rfl rfl rfl (congrArg (fun b => some (Value.bool b)) hb68) rfl rfl rfl (Y_move rfl rfl) ?_; clear hf; intro a hf
        refine sYg hf hs rfl rfl rfl (congrArg (fun b => some (Value.bool b)) hb68) rfl rfl rfl (Y_move rfl rfl) ?_; clear hf; intro a hf
        obtain ⟨r69, hc70, hj61⟩ := bind_some hj61
        refine sCallg hf rfl rfl rfl (congrArg (fun b => some (Value.bool b)) hb68) rfl rfl rfl rfl (cap := []) rfl rfl en54 (laws_likeTables9_ok F r34.1 A36 n37 c38 hn39 r41.1 A43 n44 c45 hn46 _ _ hc70 (hs.rdM (i := 5) rfl) (hs.rdM (i := 6) rfl)) ?_; clear hf
        rintro _ w ⟨rfl, hs1⟩ a hf
        have hs : St [] W w [.row A6 n7 c8 112 4 ((recs GPlace.cells) r4.1.Places), .mat A10 n11 c12 23 2 vs14 r4.2, .blk b15 52 [.int .i64 r4.1.Events, .slice A6 n7 c8], .mat A22 n23 c24 23 2 vs26 r20.1, .mat A29 n30 c31 23 2 vs33 r27.1, .mat A36 n37 c38 23 2 vs40 r34.1, .mat A43 n44 c45 23 2 vs47 r41.1] := hs.ext hs1.below
        clear hs1
        refine sYg hf hs rfl rfl rfl (congrArg (fun b => some (Value.bool b)) hb68) rfl rfl rfl (Y_not rfl rfl) ?_; clear hf; intro a hf
        refine sY hf hs rfl rfl rfl (Y_pickF rfl (congrArg (fun b => some (Value.bool b)) hb68) rfl) ?_; clear hf; intro a hf
        refine sY hf hs rfl rfl rfl (Y_move rfl rfl) ?_; clear hf; intro a hf
        refine bsplit (!r69) (fun hb71 => ?_) (fun hb71 => ?_)
        ·have hj61 := bif_t hj61 hb71
         refine sNo hf rfl rfl rfl (congrArg (fun b => some (Value.bool b)) hb71) rfl rfl rfl ?_; clear hf; intro a hf
         refine sNo hf rfl rfl rfl (congrArg (fun b => some (Value.bool b)) hb71) rfl rfl rfl ?_; clear hf; intro a hf
         refine sNo hf rfl rfl rfl (congrArg (fun b => some (Value.bool b)) hb71) rfl rfl rfl ?_; clear hf; intro a hf
         refine sY hf hs rfl rfl rfl (Y_pickT rfl (congrArg (fun b => some (Value.bool b)) hb71) rfl) ?_; clear hf; intro a hf
         refine sY hf hs rfl rfl rfl (Y_move rfl rfl) ?_; clear hf; intro a hf
         refine sNo hf rfl rfl rfl rfl rfl rfl rfl ?_; clear hf; intro a hf
         refine sNo hf rfl rfl rfl rfl rfl rfl rfl ?_; clear hf; intro a hf
         refine sNo hf rfl rfl rfl rfl rfl rfl rfl ?_; clear hf; intro a hf
         refine sY hf hs rfl rfl rfl (Y_pickT rfl rfl rfl) ?_; clear hf; intro a hf
         refine wpO_nil ?_
         refine wpL_nil (then_normal ?_)
         exact ⟨true, Option.some.inj hj61, (FrD.pick (FrD.pick (FrD.pick (FrD.pick (FrD.pick (FrD.pick (FrD.pick hf.none hf rfl) hf rfl) hf rfl) hf rfl) hf rfl) hf rfl) hf rfl), hs.sel [2, 0, 1, 3, 5] (by decide)⟩
        ·have hj61 := bif_f hj61 hb71
         refine sYg hf hs rfl rfl rfl (congrArg (fun b => some (Value.bool b)) hb71) rfl rfl rfl (Y_move rfl rfl) ?_; clear hf; intro a hf
         refine sYg hf hs rfl rfl rfl (congrArg (fun b => some (Value.bool b)) hb71) rfl rfl rfl (Y_move rfl rfl) ?_; clear hf; intro a hf
         refine sYg hf hs rfl rfl rfl (congrArg (fun b => some (Value.bool b)) hb71) rfl rfl rfl (Y_neq rfl rfl rfl) ?_; clear hf; intro a hf
         refine sY hf hs rfl rfl rfl (Y_pickF rfl (congrArg (fun b => some (Value.bool b)) hb71) rfl) ?_; clear hf; intro a hf
         refine sY hf hs rfl rfl rfl (Y_move rfl rfl) ?_; clear hf; intro a hf
         refine bsplit (r20.2 != r16.2) (fun hb72 => ?_) (fun hb72 => ?_)
         ·have hj61 := bif_t hj61 hb72
          refine sNo hf rfl rfl rfl (congrArg (fun b => some (Value.bool b)) hb72) rfl rfl rfl ?_; clear hf; intro a hf
          refine sNo hf rfl rfl rfl (congrArg (fun b => some (Value.bool b)) hb72) rfl rfl rfl ?_; clear hf; intro a hf
          refine sNo hf rfl rfl rfl (congrArg (fun b => some (Value.bool b)) hb72) rfl rfl rfl ?_; clear hf; intro a hf
          refine sY hf hs rfl rfl rfl (Y_pickT rfl (congrArg (fun b => some (Value.bool b)) hb72) rfl) ?_; clear hf; intro a hf
          refine wpO_nil ?_
          refine wpL_nil (then_normal ?_)
          exact ⟨true, Option.some.inj hj61, (FrD.pick (FrD.pick (FrD.pick (FrD.pick (FrD.pick (FrD.pick (FrD.pick hf.none hf rfl) hf rfl) hf rfl) hf rfl) hf rfl) hf rfl) hf rfl), hs.sel [2, 0, 1, 3, 5] (by decide)⟩
         ·have hj61 := bif_f hj61 hb72
          refine sYg hf hs rfl rfl rfl (congrArg (fun b => some (Value.bool b)) hb72) rfl rfl rfl (Y_move rfl rfl) ?_; clear hf; intro a hf
          refine sYg hf hs rfl rfl rfl (congrArg (fun b => some (Value.bool b)) hb72) rfl rfl rfl (Y_move rfl rfl) ?_; clear hf; intro a hf
          refine sYg hf hs rfl rfl rfl (congrArg (fun b => some (Value.bool b)) hb72) rfl rfl rfl (Y_neq rfl rfl rfl) ?_; clear hf; intro a hf
          refine sY hf hs rfl rfl rfl (Y_pickF rfl (congrArg (fun b => some (Value.bool b)) hb72) rfl) ?_; clear hf; intro a hf
          refine wpO_nil ?_
          refine wpL_nil (then_normal ?_)
          exact ⟨(r34.2 != r16.2), Option.some.inj hj61, (FrD.pick (FrD.pick (FrD.pick (FrD.pick (FrD.pick (FrD.pick (FrD.pick hf.none hf rfl) hf rfl) hf rfl) hf rfl) hf rfl) hf rfl) hf rfl), hs.sel [2, 0, 1, 3, 5] (by decide)⟩
  ·rintro a w ⟨b59, hr_, hf, hs⟩
   subst hr_
   try dsimp only at hm
   refine wpL_cond hf rfl (fun hb73 => ?_) (fun hb73 => ?_)
   ·have hm := bif_t hm hb73
    refine wpL_seq <| wpL_region ?_
    refine sY hf hs rfl rfl rfl (Y_assign rfl rfl) ?_; clear hf; intro a hf
    refine wpO_nil ?_
    obtain rfl := Option.some.inj hm
    refine wpL_ret (ret_tmp rfl hf rfl ?_)
    exact ⟨_, rfl, rfl, hs.sel [] (by decide)⟩
   ·have hm := bif_f hm hb73
    refine wpL_skip <| wpL_seq <| wpL_seq <| wpL_region ?_
    refine sY hf hs rfl rfl rfl (Y_move rfl rfl) ?_; clear hf; intro a hf
    refine sY hf hs rfl rfl rfl (Y_neq rfl rfl rfl) ?_; clear hf; intro a hf
    refine wpO_nil ?_
    refine wpL_cond hf rfl (fun hb74 => ?_) (fun hb74 => ?_)
    ·have hm := bif_t hm hb74
     refine wpL_seq <| wpL_region ?_
     refine sY hf hs rfl rfl rfl (Y_assign rfl rfl) ?_; clear hf; intro a hf
     refine wpO_nil ?_
     obtain rfl := Option.some.inj hm
     refine wpL_ret (ret_tmp rfl hf rfl ?_)
     exact ⟨_, rfl, rfl, hs.sel [] (by decide)⟩
    ·have hm := bif_f hm hb74
     refine wpL_skip <| wpL_seq <| wpL_region ?_
     refine sY hf hs rfl rfl rfl (Y_load_blkS rfl rfl (i := 0) rfl ag52 ti52 rfl) ?_; clear hf; intro a hf
     refine sY hf hs rfl rfl rfl (Y_move rfl rfl) ?_; clear hf; intro a hf
     obtain ⟨r75, hc76, hm⟩ := bind_some hm
     refine sCall hf rfl rfl rfl rfl (cap := []) rfl rfl en55 (impl_FloatsOf_ok F (GEventGraph.mk r4.1.Events r4.1.Places) A6 n7 c8 hn9 r4.2 A10 n11 c12 hn13 _ _ hc76 (hs.rd (i := 1) rfl) (hs.rdM (i := 2) rfl)) ?_; clear hf
     rintro _ w ⟨A77, n78, c79, vs81, rfl, hn80, hs1⟩ a hf
     have hs : St [] W w [.blk b15 52 [.int .i64 r4.1.Events, .slice A6 n7 c8], .row A6 n7 c8 112 4 ((recs GPlace.cells) r4.1.Places), .mat A10 n11 c12 23 2 vs14 r4.2, .mat A22 n23 c24 23 2 vs26 r20.1, .mat A36 n37 c38 23 2 vs40 r34.1, .mat A77 n78 c79 23 2 vs81 r75.1] := hs.join hs1
     clear hs1
     refine sY hf hs rfl rfl rfl (Y_move rfl rfl) ?_; clear hf; intro a hf
     refine sY hf hs rfl rfl rfl (Y_extract rfl rfl rfl) ?_; clear hf; intro a hf
     refine sY hf hs rfl rfl rfl (Y_extract rfl rfl rfl) ?_; clear hf; intro a hf
     refine sY hf hs rfl rfl rfl (Y_assign rfl rfl) ?_; clear hf; intro a hf
     refine sY hf hs rfl rfl rfl (Y_assign rfl rfl) ?_; clear hf; intro a hf
     refine wpO_nil <| wpL_seq <| wpL_seq <| wpL_region ?_
     refine sY hf hs rfl rfl rfl (Y_assign rfl rfl) ?_; clear hf; intro a hf
     refine wpO_nil ?_
     obtain ⟨r153, hl154, hm⟩ := bind_some hm
     refine wpL_block (fun a w => Sum.inr () = r153 ∧ Fr a 145 [(5, .bool r16.1), (9, .slice A22 n23 c24), (18, .int .i64 r75.2)] ∧ St [] W w [.mat A22 n23 c24 23 2 vs26 r20.1]) ?_ ?_
     ·refine wpL_loop (fun n a w => ∃ x129 : Int, laws_FnDue_L1 F r34 r75 n x129 = some r153 ∧ Fr a 145 [(5, .bool r16.1), (9, .slice A22 n23 c24), (13, .slice A36 n37 c38), (17, .slice A77 n78 c79), (18, .int .i64 r75.2), (19, .int .i64 x129)] ∧ St [] W w [.mat A22 n23 c24 23 2 vs26 r20.1, .mat A36 n37 c38 23 2 vs40 r34.1, .mat A77 n78 c79 23 2 vs81 r75.1]) F ?_ ?_ ?_
      ·exact ⟨0, hl154, (FrD.pick (FrD.pick (FrD.pick (FrD.pick (FrD.pick (FrD.pick hf.none hf rfl) hf rfl) hf rfl) hf rfl) hf rfl) hf rfl), hs.sel [3, 4, 5] (by decide)⟩
      ·rintro a w ⟨x129, h0_, -, -⟩; simp [laws_FnDue_L1] at h0_
      ·rintro n156 a w ⟨x129, hm155, hf, hs⟩
       rw [laws_FnDue_L1] at hm155
       refine wpL_seq <| wpL_seq <| wpL_region ?_
       refine sY hf hs rfl rfl rfl (Y_move rfl rfl) ?_; clear hf; intro a hf
       refine sY hf hs rfl rfl rfl (Y_move rfl rfl) ?_; clear hf; intro a hf
       refine sY hf hs rfl rfl rfl (Y_lenH rfl rfl el59 hn39) ?_; clear hf; intro a hf
       refine sY hf hs rfl rfl rfl (Y_lss rfl rfl rfl) ?_; clear hf; intro a hf
       refine wpO_nil ?_
       refine wpL_cond hf rfl (fun hb157 => ?_) (fun hb157 => ?_)
       ·have hm155 := bif_t hm155 hb157
        refine wpL_skip <| wpL_seq <| wpL_block0 <| wpL_seq ?_
        refine wpL_draw (by kernel_rfl) (by kernel_rfl) hs ?_
        refine qY hf rfl rfl rfl (Y_move rfl rfl) ?_; clear hf; intro a hf
        refine qY hf rfl rfl rfl (Y_move rfl rfl) ?_; clear hf; intro a hf
        refine qY hf rfl rfl rfl (Y_move rfl rfl) ?_; clear hf; intro a hf
        obtain ⟨q158, hi159, hm155⟩ := bind_some hm155
        obtain ⟨hi159a, hi159b, hi159q⟩ := idx_some hi159
        obtain ⟨A160, c161, hv162⟩ := hs.matRow (i := 1) rfl hi159q
        refine qY hf rfl rfl rfl (Y_index rfl rfl rfl el59 ti23 (Rd.isAt (hs.rdV (i := 1) rfl) hv162) hi159a (ltn hn39 hi159b)) ?_; clear hf; intro a hf
        refine qY hf rfl rfl rfl (Y_load_rd rfl rfl (fun w hs => hs.rdV (i := 1) rfl) (at1 hv162) ag23) ?_; clear hf; intro a hf
        obtain ⟨q163, hi164, hm155⟩ := bind_some hm155
        obtain ⟨hi164a, hi164b, hi164q⟩ := idx_some hi164
        refine qY hf rfl rfl rfl (Y_index rfl rfl rfl el23 ti2 (Rd.isAt (hs.rdRow (i := 1) rfl ⟨hi159q, hv162⟩) (at1 (ints_at hi164q))) hi164a hi164b) ?_; clear hf; intro a hf
        refine qY hf rfl rfl rfl (Y_load_rd rfl rfl (fun w hs => hs.rdRow (i := 1) rfl ⟨hi159q, hv162⟩) (at1 (ints_at hi164q)) ag2) ?_; clear hf; intro a hf
        refine qY hf rfl rfl rfl (Y_sub rfl rfl rfl) ?_; clear hf; intro a hf
        obtain ⟨q165, hi166, hm155⟩ := bind_some hm155
        obtain ⟨hi166a, hi166b, hi166q⟩ := idx_some hi166
        obtain ⟨A167, c168, hv169⟩ := hs.matRow (i := 2) rfl hi166q
        refine qY hf rfl rfl rfl (Y_index rfl rfl rfl el59 ti23 (Rd.isAt (hs.rdV (i := 2) rfl) hv169) hi166a (ltn hn80 hi166b)) ?_; clear hf; intro a hf
        refine qY hf rfl rfl rfl (Y_load_rd rfl rfl (fun w hs => hs.rdV (i := 2) rfl) (at1 hv169) ag23) ?_; clear hf; intro a hf
        refine qY hf rfl rfl rfl (Y_move rfl rfl) ?_; clear hf; intro a hf
        refine qY hf rfl rfl rfl (Y_move rfl rfl) ?_; clear hf; intro a hf
        obtain ⟨q170, hi171, hm155⟩ := bind_some hm155
        obtain ⟨hi171a, hi171b, hi171q⟩ := idx_some hi171
        obtain ⟨A172, c173, hv174⟩ := hs.matRow (i := 1) rfl hi171q
        refine qY hf rfl rfl rfl (Y_index rfl rfl rfl el59 ti23 (Rd.isAt (hs.rdV (i := 1) rfl) hv174) hi171a (ltn hn39 hi171b)) ?_; clear hf; intro a hf
        refine qY hf rfl rfl rfl (Y_load_rd rfl rfl (fun w hs => hs.rdV (i := 1) rfl) (at1 hv174) ag23) ?_; clear hf; intro a hf
        obtain ⟨q175, hi176, hm155⟩ := bind_some hm155
        obtain ⟨hi176a, hi176b, hi176q⟩ := idx_some hi176
        refine qY hf rfl rfl rfl (Y_index rfl rfl rfl el23 ti2 (Rd.isAt (hs.rdRow (i := 1) rfl ⟨hi171q, hv174⟩) (at1 (ints_at hi176q))) hi176a hi176b) ?_; clear hf; intro a hf
        refine qY hf rfl rfl rfl (Y_load_rd rfl rfl (fun w hs => hs.rdRow (i := 1) rfl ⟨hi171q, hv174⟩) (at1 (ints_at hi176q)) ag2) ?_; clear hf; intro a hf
        obtain ⟨q177, hi178, hm155⟩ := bind_some hm155
        obtain ⟨hi178a, hi178b, hi178q⟩ := idx_some hi178
        refine qY hf rfl rfl rfl (Y_index rfl rfl rfl el23 ti2 (Rd.isAt (hs.rdRow (i := 2) rfl ⟨hi166q, hv169⟩) (at1 (ints_at hi178q))) hi178a hi178b) ?_; clear hf; intro a hf
        refine qY hf rfl rfl rfl (Y_load_rd rfl rfl (fun w hs => hs.rdRow (i := 2) rfl ⟨hi166q, hv169⟩) (at1 (ints_at hi178q)) ag2) ?_; clear hf; intro a hf
        refine qY hf rfl rfl rfl (Y_neq rfl rfl rfl) ?_; clear hf; intro a hf
        refine qNil ?_; clear hs; intro w hs
        refine wpL_cond hf rfl (fun hb179 => ?_) (fun hb179 => ?_)
        ·have hm155 := bif_t hm155 hb179
         refine wpL_seq <| wpL_region ?_
         refine sY hf hs rfl rfl rfl (Y_assign rfl rfl) ?_; clear hf; intro a hf
         refine wpO_nil ?_
         obtain rfl := Option.some.inj hm155
         try dsimp only at hm
         obtain rfl := Option.some.inj hm
         refine wpL_ret (Qb_ret (Ql_ret (Qb_ret (ret_tmp rfl hf rfl ?_))))
         exact ⟨_, rfl, rfl, hs.sel [] (by decide)⟩
        ·have hm155 := bif_f hm155 hb179
         refine wpL_skip ?_
         refine wpL_nil (Qb_normal ?_)
         refine wpL_region ?_
         refine sY hf hs rfl rfl rfl (Y_move rfl rfl) ?_; clear hf; intro a hf
         refine sY hf hs rfl rfl rfl (Y_add rfl rfl rfl) ?_; clear hf; intro a hf
         refine sY hf hs rfl rfl rfl (Y_assign rfl rfl) ?_; clear hf; intro a hf
         refine wpO_nil ?_
         refine wpL_nil (Ql_normal ?_)
         exact ⟨(IntKind.i64.wrap (x129 + 1)), hm155, (FrD.pick (FrD.pick (FrD.pick (FrD.pick (FrD.pick (FrD.pick hf.none hf rfl) hf rfl) hf rfl) hf rfl) hf rfl) hf rfl), hs⟩
       ·have hm155 := bif_f hm155 hb157
        refine wpL_exit (Ql_exit (Qb_exit ?_))
        exact ⟨Option.some.inj hm155, (FrD.pick (FrD.pick (FrD.pick hf.none hf rfl) hf rfl) hf rfl), hs.sel [0] (by decide)⟩
     ·rintro a w ⟨hr_, hf, hs⟩
      subst hr_
      try dsimp only at hm
      refine wpL_seq ?_
      obtain ⟨r182, hj183, hm⟩ := bind_some hm
      refine wpL_cut (fun a w => ∃ b181 : Bool, b181 = r182 ∧ Fr a 145 [(2, .bool b181)] ∧ St [] W w []) ?_ ?_
      ·refine wpL_region ?_
       refine sY hf hs rfl rfl rfl (Y_move rfl rfl) ?_; clear hf; intro a hf
       refine sY hf hs rfl rfl rfl (Y_eql rfl rfl rfl) ?_; clear hf; intro a hf
       refine sY hf hs rfl rfl rfl (Y_move rfl rfl) ?_; clear hf; intro a hf
       refine bsplit (r75.2 == 0) (fun hb184 => ?_) (fun hb184 => ?_)
       ·have hj183 := bif_t hj183 hb184
        refine sYg hf hs rfl rfl rfl (congrArg (fun b => some (Value.bool b)) hb184) rfl rfl rfl (Y_move rfl rfl) ?_; clear hf; intro a hf
        refine sYg hf hs rfl rfl rfl (congrArg (fun b => some (Value.bool b)) hb184) rfl rfl rfl (Y_move rfl rfl) ?_; clear hf; intro a hf
        refine sYg hf hs rfl rfl rfl (congrArg (fun b => some (Value.bool b)) hb184) rfl rfl rfl (Y_lenH rfl rfl el59 hn25) ?_; clear hf; intro a hf
        refine sYg hf hs rfl rfl rfl (congrArg (fun b => some (Value.bool b)) hb184) rfl rfl rfl (Y_eql rfl rfl rfl) ?_; clear hf; intro a hf
        refine sYg hf hs rfl rfl rfl (congrArg (fun b => some (Value.bool b)) hb184) rfl rfl rfl (Y_eqlB rfl rfl rfl Try.underlying4) ?_; clear hf; intro a hf
        refine sY hf hs rfl rfl rfl (Y_pickT rfl (congrArg (fun b => some (Value.bool b)) hb184) rfl) ?_; clear hf; intro a hf
        refine sY hf hs rfl rfl rfl (Y_assign rfl rfl) ?_; clear hf; intro a hf
        refine wpO_nil ?_
        refine wpL_nil (then_normal ?_)
        exact ⟨(r16.1 == ((r20.1.length : Int) == 0)), Option.some.inj hj183, (FrD.pick hf.none hf rfl), hs.sel [] (by decide)⟩
       ·have hj183 := bif_f hj183 hb184
        refine sNo hf rfl rfl rfl (congrArg (fun b => some (Value.bool b)) hb184) rfl rfl rfl ?_; clear hf; intro a hf
        refine sNo hf rfl rfl rfl (congrArg (fun b => some (Value.bool b)) hb184) rfl rfl rfl ?_; clear hf; intro a hf
        refine sNo hf rfl rfl rfl (congrArg (fun b => some (Value.bool b)) hb184) rfl rfl rfl ?_; clear hf; intro a hf
        refine sNo hf rfl rfl rfl (congrArg (fun b => some (Value.bool b)) hb184) rfl rfl rfl ?_; clear hf; intro a hf
        refine sNo hf rfl rfl rfl (congrArg (fun b => some (Value.bool b)) hb184) rfl rfl rfl ?_; clear hf; intro a hf
        refine sY hf hs rfl rfl rfl (Y_pickF rfl (congrArg (fun b => some (Value.bool b)) hb184) rfl) ?_; clear hf; intro a hf
        refine sY hf hs rfl rfl rfl (Y_assign rfl rfl) ?_; clear hf; intro a hf
        refine wpO_nil ?_
        refine wpL_nil (then_normal ?_)
        exact ⟨false, Option.some.inj hj183, (FrD.pick hf.none hf rfl), hs.sel [] (by decide)⟩
      ·rintro a w ⟨b181, hr_, hf, hs⟩
       subst hr_
       try dsimp only at hm
       obtain rfl := Option.some.inj hm
       refine wpL_ret (ret_tmp rfl hf rfl ?_)
       exact ⟨_, rfl, rfl, hs⟩

end Go.Proofs.Ytebmlphobgaboaa
