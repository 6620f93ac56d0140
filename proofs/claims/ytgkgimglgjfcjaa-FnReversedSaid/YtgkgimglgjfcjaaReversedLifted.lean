/- The functions do what their models say. -/
import Derived.Test.YtgkgimglgjfcjaaReversedLifted4
import Derived.Test.YtgkgimglgjfcjaaRows
namespace Go.Proofs.Ytgkgimglgjfcjaa
open Go.RowKit

set_option maxHeartbeats 2000000 in
set_option maxRecDepth 100000 in
theorem laws_FnReversed_ok (F : Nat) (p0 : List Int) (av : Option Addr) (bi aw : Nat) (bt : bi = p0.length) (r : Bool) (W : World) (hm : laws_FnReversed F p0 = some r) (aX : Rd W av (bytes p0)) :
  Calls Try.prog 9 [.slice av bi aw].toArray W fun e w' => ∃ v, e = .returned v ∧ v = .bool r ∧ St [] W w' [] := by
 subst bt
 unfold laws_FnReversed at hm
 refine Calls.enter (N := 243) Try.func9 rfl rfl rfl (fun a hf => ?_)
 have hs := St.start W
 obtain ⟨w, hw_⟩ : ∃ w, w = W := ⟨W, rfl⟩
 clear hw_ w
 refine wpL_seq <| wpL_region ?_
 refine sY hf hs rfl rfl rfl (Y_assign rfl rfl) ?_; clear hf; intro a hf
 refine wpO_nil <| wpL_seq <| wpL_seq <| wpL_region ?_
 refine sY hf hs rfl rfl rfl (Y_move rfl rfl) ?_; clear hf; intro a hf
 obtain ⟨r1, hc2, hm⟩ := bind_some hm
 refine sCall hf rfl rfl rfl rfl (cap := []) rfl rfl en17 (laws_big_ok F p0 av p0.length aw rfl _ _ hc2 (aX.at hs)) ?_; clear hf
 rintro _ w ⟨rfl, hs1⟩ a hf
 have hs : St [] W w [] := hs.ext hs1.below
 clear hs1
 refine wpO_nil ?_
 refine wpL_cond hf rfl (fun hb3 => ?_) (fun hb3 => ?_)
 ·have hm := bif_t hm hb3
  refine wpL_seq <| wpL_region ?_
  refine sY hf hs rfl rfl rfl (Y_assign rfl rfl) ?_; clear hf; intro a hf
  refine wpO_nil ?_
  obtain rfl := Option.some.inj hm
  refine wpL_ret (ret_tmp rfl hf rfl ?_)
  exact ⟨_, rfl, rfl, hs⟩
 ·have hm := bif_f hm hb3
  refine wpL_skip <| wpL_seq <| wpL_region ?_
  refine sY hf hs rfl rfl rfl (Y_move rfl rfl) ?_; clear hf; intro a hf
  obtain ⟨r4, hc5, hm⟩ := bind_some hm
  refine sCall hf rfl rfl rfl rfl (cap := []) rfl rfl en58 (spec_DrawReverseGraph_ok F p0 av p0.length aw rfl _ _ hc5 (aX.at hs)) ?_; clear hf
  rintro _ w ⟨A6, n7, c8, rfl, hn9, hs1⟩ a hf
  have hs : St [] W w [.row A6 n7 c8 127 4 ((recs GPlace.cells) r4.Places)] := hs.join hs1
  clear hs1
  refine sAlloc hf hs rfl rfl rfl rfl ti59 ?_; clear hf hs; intro a w b10 hs hf
  have hs : St [] W w [.row A6 n7 c8 127 4 ((recs GPlace.cells) r4.Places), .blk b10 59 [.int .i64 0, .slice none 0 0]] := hs
  refine sStore (i := 1) (us := [.int .i64 r4.Events, .slice A6 n7 c8]) hf hs rfl rfl rfl rfl rfl rfl ti59 rfl rfl rfl (Nat.le_of_ble_eq_true rfl) rfl ?_; clear hs; intro w hs
  have hs : St [] W w [.row A6 n7 c8 127 4 ((recs GPlace.cells) r4.Places), .blk b10 59 [.int .i64 r4.Events, .slice A6 n7 c8]] := hs
  refine wpO_nil <| wpL_seq <| wpL_region ?_
  refine sY hf hs rfl rfl rfl (Y_load_blkS rfl rfl (i := 1) rfl ag59 ti59 rfl) ?_; clear hf; intro a hf
  obtain ⟨r11, hc12, hm⟩ := bind_some hm
  refine sCall hf rfl rfl rfl rfl (cap := []) rfl rfl en59 (impl_ReverseGraph_ok F r4 A6 n7 c8 hn9 _ _ hc12 (hs.rd (i := 0) rfl)) ?_; clear hf
  rintro _ w ⟨A13, n14, c15, rfl, hn16, hs1⟩ a hf
  have hs : St [] W w [.row A6 n7 c8 127 4 ((recs GPlace.cells) r4.Places), .blk b10 59 [.int .i64 r4.Events, .slice A6 n7 c8], .row A13 n14 c15 127 4 ((recs GPlace.cells) r11.1.Places)] := hs.join hs1
  clear hs1
  refine sY hf hs rfl rfl rfl (Y_move rfl rfl) ?_; clear hf; intro a hf
  refine sY hf hs rfl rfl rfl (Y_extract rfl rfl rfl) ?_; clear hf; intro a hf
  refine sY hf hs rfl rfl rfl (Y_extract rfl rfl rfl) ?_; clear hf; intro a hf
  refine sAlloc hf hs rfl rfl rfl rfl ti59 ?_; clear hf hs; intro a w b17 hs hf
  have hs : St [] W w [.row A6 n7 c8 127 4 ((recs GPlace.cells) r4.Places), .blk b10 59 [.int .i64 r4.Events, .slice A6 n7 c8], .row A13 n14 c15 127 4 ((recs GPlace.cells) r11.1.Places), .blk b17 59 [.int .i64 0, .slice none 0 0]] := hs
  refine sStore (i := 3) (us := [.int .i64 r11.1.Events, .slice A13 n14 c15]) hf hs rfl rfl rfl rfl rfl rfl ti59 rfl rfl rfl (Nat.le_of_ble_eq_true rfl) rfl ?_; clear hs; intro w hs
  have hs : St [] W w [.row A6 n7 c8 127 4 ((recs GPlace.cells) r4.Places), .blk b10 59 [.int .i64 r4.Events, .slice A6 n7 c8], .row A13 n14 c15 127 4 ((recs GPlace.cells) r11.1.Places), .blk b17 59 [.int .i64 r11.1.Events, .slice A13 n14 c15]] := hs
  refine sY hf hs rfl rfl rfl (Y_assign rfl rfl) ?_; clear hf; intro a hf
  refine wpO_nil <| wpL_seq <| wpL_region ?_
  refine sY hf hs rfl rfl rfl (Y_load_blkS rfl rfl (i := 1) rfl ag59 ti59 rfl) ?_; clear hf; intro a hf
  obtain ⟨r18, hc19, hm⟩ := bind_some hm
  refine sCall hf rfl rfl rfl rfl (cap := []) rfl rfl en60 (spec_ReverseGraph_ok F r4 A6 n7 c8 hn9 _ _ hc19 (hs.rd (i := 0) rfl)) ?_; clear hf
  rintro _ w ⟨A20, n21, c22, rfl, hn23, hs1⟩ a hf
  have hs : St [] W w [.row A6 n7 c8 127 4 ((recs GPlace.cells) r4.Places), .blk b10 59 [.int .i64 r4.Events, .slice A6 n7 c8], .row A13 n14 c15 127 4 ((recs GPlace.cells) r11.1.Places), .blk b17 59 [.int .i64 r11.1.Events, .slice A13 n14 c15], .row A20 n21 c22 127 4 ((recs GPlace.cells) r18.1.Places)] := hs.join hs1
  clear hs1
  refine sY hf hs rfl rfl rfl (Y_move rfl rfl) ?_; clear hf; intro a hf
  refine sY hf hs rfl rfl rfl (Y_extract rfl rfl rfl) ?_; clear hf; intro a hf
  refine sY hf hs rfl rfl rfl (Y_extract rfl rfl rfl) ?_; clear hf; intro a hf
  refine sAlloc hf hs rfl rfl rfl rfl ti59 ?_; clear hf hs; intro a w b24 hs hf
  have hs : St [] W w [.row A6 n7 c8 127 4 ((recs GPlace.cells) r4.Places), .blk b10 59 [.int .i64 r4.Events, .slice A6 n7 c8], .row A13 n14 c15 127 4 ((recs GPlace.cells) r11.1.Places), .blk b17 59 [.int .i64 r11.1.Events, .slice A13 n14 c15], .row A20 n21 c22 127 4 ((recs GPlace.cells) r18.1.Places), .blk b24 59 [.int .i64 0, .slice none 0 0]] := hs
  refine sStore (i := 5) (us := [.int .i64 r18.1.Events, .slice A20 n21 c22]) hf hs rfl rfl rfl rfl rfl rfl ti59 rfl rfl rfl (Nat.le_of_ble_eq_true rfl) rfl ?_; clear hs; intro w hs
  have hs : St [] W w [.row A6 n7 c8 127 4 ((recs GPlace.cells) r4.Places), .blk b10 59 [.int .i64 r4.Events, .slice A6 n7 c8], .row A13 n14 c15 127 4 ((recs GPlace.cells) r11.1.Places), .blk b17 59 [.int .i64 r11.1.Events, .slice A13 n14 c15], .row A20 n21 c22 127 4 ((recs GPlace.cells) r18.1.Places), .blk b24 59 [.int .i64 r18.1.Events, .slice A20 n21 c22]] := hs
  refine sY hf hs rfl rfl rfl (Y_assign rfl rfl) ?_; clear hf; intro a hf
  refine wpO_nil <| wpL_seq <| wpL_region ?_
  refine sY hf hs rfl rfl rfl (Y_move rfl rfl) ?_; clear hf; intro a hf
  obtain ⟨r25, hc26, hm⟩ := bind_some hm
  refine sCall hf rfl rfl rfl rfl (cap := []) rfl rfl en61 (spec_DrawStretchGraph_ok F p0 av p0.length aw rfl _ _ hc26 (aX.at hs)) ?_; clear hf
  rintro _ w ⟨A27, n28, c29, rfl, hn30, hs1⟩ a hf
  have hs : St [] W w [.row A6 n7 c8 127 4 ((recs GPlace.cells) r4.Places), .blk b10 59 [.int .i64 r4.Events, .slice A6 n7 c8], .row A13 n14 c15 127 4 ((recs GPlace.cells) r11.1.Places), .blk b17 59 [.int .i64 r11.1.Events, .slice A13 n14 c15], .row A20 n21 c22 127 4 ((recs GPlace.cells) r18.1.Places), .blk b24 59 [.int .i64 r18.1.Events, .slice A20 n21 c22], .row A27 n28 c29 127 4 ((recs GPlace.cells) r25.1.Places)] := hs.join hs1
  clear hs1
  refine sY hf hs rfl rfl rfl (Y_move rfl rfl) ?_; clear hf; intro a hf
  refine sY hf hs rfl rfl rfl (Y_extract rfl rfl rfl) ?_; clear hf; intro a hf
  refine sY hf hs rfl rfl rfl (Y_extract rfl rfl rfl) ?_; clear hf; intro a hf
  refine sAlloc hf hs rfl rfl rfl rfl ti59 ?_; clear hf hs; intro a w b31 hs hf
  have hs : St [] W w [.row A6 n7 c8 127 4 ((recs GPlace.cells) r4.Places), .blk b10 59 [.int .i64 r4.Events, .slice A6 n7 c8], .row A13 n14 c15 127 4 ((recs GPlace.cells) r11.1.Places), .blk b17 59 [.int .i64 r11.1.Events, .slice A13 n14 c15], .row A20 n21 c22 127 4 ((recs GPlace.cells) r18.1.Places), .blk b24 59 [.int .i64 r18.1.Events, .slice A20 n21 c22], .row A27 n28 c29 127 4 ((recs GPlace.cells) r25.1.Places), .blk b31 59 [.int .i64 0, .slice none 0 0]] := hs
  refine sStore (i := 7) (us := [.int .i64 r25.1.Events, .slice A27 n28 c29]) hf hs rfl rfl rfl rfl rfl rfl ti59 rfl rfl rfl (Nat.le_of_ble_eq_true rfl) rfl ?_; clear hs; intro w hs
  have hs : St [] W w [.row A6 n7 c8 127 4 ((recs GPlace.cells) r4.Places), .blk b10 59 [.int .i64 r4.Events, .slice A6 n7 c8], .row A13 n14 c15 127 4 ((recs GPlace.cells) r11.1.Places), .blk b17 59 [.int .i64 r11.1.Events, .slice A13 n14 c15], .row A20 n21 c22 127 4 ((recs GPlace.cells) r18.1.Places), .blk b24 59 [.int .i64 r18.1.Events, .slice A20 n21 c22], .row A27 n28 c29 127 4 ((recs GPlace.cells) r25.1.Places), .blk b31 59 [.int .i64 r25.1.Events, .slice A27 n28 c29]] := hs
  refine sY hf hs rfl rfl rfl (Y_assign rfl rfl) ?_; clear hf; intro a hf
  refine wpO_nil <| wpL_seq <| wpL_region ?_
  refine sY hf hs rfl rfl rfl (Y_load_blkS rfl rfl (i := 7) rfl ag59 ti59 rfl) ?_; clear hf; intro a hf
  refine sY hf hs rfl rfl rfl (Y_move rfl rfl) ?_; clear hf; intro a hf
  obtain ⟨r32, hc33, hm⟩ := bind_some hm
  refine sCall hf rfl rfl rfl rfl (cap := []) rfl rfl en62 (impl_StretchGraph_ok F (GEventGraph.mk r25.1.Events r25.1.Places) A27 n28 c29 hn30 r25.2 _ _ hc33 (hs.rd (i := 6) rfl)) ?_; clear hf
  rintro _ w ⟨A34, n35, c36, rfl, hn37, hs1⟩ a hf
  have hs : St [] W w [.row A6 n7 c8 127 4 ((recs GPlace.cells) r4.Places), .blk b10 59 [.int .i64 r4.Events, .slice A6 n7 c8], .row A13 n14 c15 127 4 ((recs GPlace.cells) r11.1.Places), .blk b17 59 [.int .i64 r11.1.Events, .slice A13 n14 c15], .row A20 n21 c22 127 4 ((recs GPlace.cells) r18.1.Places), .blk b24 59 [.int .i64 r18.1.Events, .slice A20 n21 c22], .row A27 n28 c29 127 4 ((recs GPlace.cells) r25.1.Places), .blk b31 59 [.int .i64 r25.1.Events, .slice A27 n28 c29], .row A34 n35 c36 127 4 ((recs GPlace.cells) r32.1.Places)] := hs.join hs1
  clear hs1
  refine sY hf hs rfl rfl rfl (Y_move rfl rfl) ?_; clear hf; intro a hf
  refine sY hf hs rfl rfl rfl (Y_extract rfl rfl rfl) ?_; clear hf; intro a hf
  refine sY hf hs rfl rfl rfl (Y_extract rfl rfl rfl) ?_; clear hf; intro a hf
  refine sAlloc hf hs rfl rfl rfl rfl ti59 ?_; clear hf hs; intro a w b38 hs hf
  have hs : St [] W w [.row A6 n7 c8 127 4 ((recs GPlace.cells) r4.Places), .blk b10 59 [.int .i64 r4.Events, .slice A6 n7 c8], .row A13 n14 c15 127 4 ((recs GPlace.cells) r11.1.Places), .blk b17 59 [.int .i64 r11.1.Events, .slice A13 n14 c15], .row A20 n21 c22 127 4 ((recs GPlace.cells) r18.1.Places), .blk b24 59 [.int .i64 r18.1.Events, .slice A20 n21 c22], .row A27 n28 c29 127 4 ((recs GPlace.cells) r25.1.Places), .blk b31 59 [.int .i64 r25.1.Events, .slice A27 n28 c29], .row A34 n35 c36 127 4 ((recs GPlace.cells) r32.1.Places), .blk b38 59 [.int .i64 0, .slice none 0 0]] := hs
  refine sStore (i := 9) (us := [.int .i64 r32.1.Events, .slice A34 n35 c36]) hf hs rfl rfl rfl rfl rfl rfl ti59 rfl rfl rfl (Nat.le_of_ble_eq_true rfl) rfl ?_; clear hs; intro w hs
  have hs : St [] W w [.row A6 n7 c8 127 4 ((recs GPlace.cells) r4.Places), .blk b10 59 [.int .i64 r4.Events, .slice A6 n7 c8], .row A13 n14 c15 127 4 ((recs GPlace.cells) r11.1.Places), .blk b17 59 [.int .i64 r11.1.Events, .slice A13 n14 c15], .row A20 n21 c22 127 4 ((recs GPlace.cells) r18.1.Places), .blk b24 59 [.int .i64 r18.1.Events, .slice A20 n21 c22], .row A27 n28 c29 127 4 ((recs GPlace.cells) r25.1.Places), .blk b31 59 [.int .i64 r25.1.Events, .slice A27 n28 c29], .row A34 n35 c36 127 4 ((recs GPlace.cells) r32.1.Places), .blk b38 59 [.int .i64 r32.1.Events, .slice A34 n35 c36]] := hs
  refine sY hf hs rfl rfl rfl (Y_assign rfl rfl) ?_; clear hf; intro a hf
  refine wpO_nil <| wpL_seq <| wpL_region ?_
  refine sY hf hs rfl rfl rfl (Y_load_blkS rfl rfl (i := 7) rfl ag59 ti59 rfl) ?_; clear hf; intro a hf
  refine sY hf hs rfl rfl rfl (Y_move rfl rfl) ?_; clear hf; intro a hf
  obtain ⟨r39, hc40, hm⟩ := bind_some hm
  refine sCall hf rfl rfl rfl rfl (cap := []) rfl rfl en63 (spec_StretchGraph_ok F (GEventGraph.mk r25.1.Events r25.1.Places) A27 n28 c29 hn30 r25.2 _ _ hc40 (hs.rd (i := 6) rfl)) ?_; clear hf
  rintro _ w ⟨A41, n42, c43, rfl, hn44, hs1⟩ a hf
  have hs : St [] W w [.row A6 n7 c8 127 4 ((recs GPlace.cells) r4.Places), .blk b10 59 [.int .i64 r4.Events, .slice A6 n7 c8], .row A13 n14 c15 127 4 ((recs GPlace.cells) r11.1.Places), .blk b17 59 [.int .i64 r11.1.Events, .slice A13 n14 c15], .row A20 n21 c22 127 4 ((recs GPlace.cells) r18.1.Places), .blk b24 59 [.int .i64 r18.1.Events, .slice A20 n21 c22], .row A27 n28 c29 127 4 ((recs GPlace.cells) r25.1.Places), .blk b31 59 [.int .i64 r25.1.Events, .slice A27 n28 c29], .row A34 n35 c36 127 4 ((recs GPlace.cells) r32.1.Places), .blk b38 59 [.int .i64 r32.1.Events, .slice A34 n35 c36], .row A41 n42 c43 127 4 ((recs GPlace.cells) r39.1.Places)] := hs.join hs1
  clear hs1
  refine sY hf hs rfl rfl rfl (Y_move rfl rfl) ?_; clear hf; intro a hf
  refine sY hf hs rfl rfl rfl (Y_extract rfl rfl rfl) ?_; clear hf; intro a hf
  refine sY hf hs rfl rfl rfl (Y_extract rfl rfl rfl) ?_; clear hf; intro a hf
  refine sAlloc hf hs rfl rfl rfl rfl ti59 ?_; clear hf hs; intro a w b45 hs hf
  have hs : St [] W w [.row A6 n7 c8 127 4 ((recs GPlace.cells) r4.Places), .blk b10 59 [.int .i64 r4.Events, .slice A6 n7 c8], .row A13 n14 c15 127 4 ((recs GPlace.cells) r11.1.Places), .blk b17 59 [.int .i64 r11.1.Events, .slice A13 n14 c15], .row A20 n21 c22 127 4 ((recs GPlace.cells) r18.1.Places), .blk b24 59 [.int .i64 r18.1.Events, .slice A20 n21 c22], .row A27 n28 c29 127 4 ((recs GPlace.cells) r25.1.Places), .blk b31 59 [.int .i64 r25.1.Events, .slice A27 n28 c29], .row A34 n35 c36 127 4 ((recs GPlace.cells) r32.1.Places), .blk b38 59 [.int .i64 r32.1.Events, .slice A34 n35 c36], .row A41 n42 c43 127 4 ((recs GPlace.cells) r39.1.Places), .blk b45 59 [.int .i64 0, .slice none 0 0]] := hs
  refine sStore (i := 11) (us := [.int .i64 r39.1.Events, .slice A41 n42 c43]) hf hs rfl rfl rfl rfl rfl rfl ti59 rfl rfl rfl (Nat.le_of_ble_eq_true rfl) rfl ?_; clear hs; intro w hs
  have hs : St [] W w [.row A6 n7 c8 127 4 ((recs GPlace.cells) r4.Places), .blk b10 59 [.int .i64 r4.Events, .slice A6 n7 c8], .row A13 n14 c15 127 4 ((recs GPlace.cells) r11.1.Places), .blk b17 59 [.int .i64 r11.1.Events, .slice A13 n14 c15], .row A20 n21 c22 127 4 ((recs GPlace.cells) r18.1.Places), .blk b24 59 [.int .i64 r18.1.Events, .slice A20 n21 c22], .row A27 n28 c29 127 4 ((recs GPlace.cells) r25.1.Places), .blk b31 59 [.int .i64 r25.1.Events, .slice A27 n28 c29], .row A34 n35 c36 127 4 ((recs GPlace.cells) r32.1.Places), .blk b38 59 [.int .i64 r32.1.Events, .slice A34 n35 c36], .row A41 n42 c43 127 4 ((recs GPlace.cells) r39.1.Places), .blk b45 59 [.int .i64 r39.1.Events, .slice A41 n42 c43]] := hs
  refine sY hf hs rfl rfl rfl (Y_assign rfl rfl) ?_; clear hf; intro a hf
  refine wpO_nil <| wpL_seq <| wpL_region ?_
  refine sY hf hs rfl rfl rfl (Y_move rfl rfl) ?_; clear hf; intro a hf
  obtain ⟨r46, hc47, hm⟩ := bind_some hm
  refine sCall hf rfl rfl rfl rfl (cap := []) rfl rfl en64 (spec_DrawRelabelGraph_ok F p0 av p0.length aw rfl _ _ hc47 (aX.at hs)) ?_; clear hf
  rintro _ w ⟨A48, n49, c50, A52, n53, c54, rfl, hn51, hn55, hs1⟩ a hf
  have hs : St [] W w [.row A6 n7 c8 127 4 ((recs GPlace.cells) r4.Places), .blk b10 59 [.int .i64 r4.Events, .slice A6 n7 c8], .row A13 n14 c15 127 4 ((recs GPlace.cells) r11.1.Places), .blk b17 59 [.int .i64 r11.1.Events, .slice A13 n14 c15], .row A20 n21 c22 127 4 ((recs GPlace.cells) r18.1.Places), .blk b24 59 [.int .i64 r18.1.Events, .slice A20 n21 c22], .row A27 n28 c29 127 4 ((recs GPlace.cells) r25.1.Places), .blk b31 59 [.int .i64 r25.1.Events, .slice A27 n28 c29], .row A34 n35 c36 127 4 ((recs GPlace.cells) r32.1.Places), .blk b38 59 [.int .i64 r32.1.Events, .slice A34 n35 c36], .row A41 n42 c43 127 4 ((recs GPlace.cells) r39.1.Places), .blk b45 59 [.int .i64 r39.1.Events, .slice A41 n42 c43], .row A48 n49 c50 127 4 ((recs GPlace.cells) r46.1.Places), .row A52 n53 c54 2 1 (ints r46.2)] := hs.join hs1
  clear hs1
  refine sY hf hs rfl rfl rfl (Y_move rfl rfl) ?_; clear hf; intro a hf
  refine sY hf hs rfl rfl rfl (Y_extract rfl rfl rfl) ?_; clear hf; intro a hf
  refine sY hf hs rfl rfl rfl (Y_extract rfl rfl rfl) ?_; clear hf; intro a hf
  refine sAlloc hf hs rfl rfl rfl rfl ti59 ?_; clear hf hs; intro a w b56 hs hf
  have hs : St [] W w [.row A6 n7 c8 127 4 ((recs GPlace.cells) r4.Places), .blk b10 59 [.int .i64 r4.Events, .slice A6 n7 c8], .row A13 n14 c15 127 4 ((recs GPlace.cells) r11.1.Places), .blk b17 59 [.int .i64 r11.1.Events, .slice A13 n14 c15], .row A20 n21 c22 127 4 ((recs GPlace.cells) r18.1.Places), .blk b24 59 [.int .i64 r18.1.Events, .slice A20 n21 c22], .row A27 n28 c29 127 4 ((recs GPlace.cells) r25.1.Places), .blk b31 59 [.int .i64 r25.1.Events, .slice A27 n28 c29], .row A34 n35 c36 127 4 ((recs GPlace.cells) r32.1.Places), .blk b38 59 [.int .i64 r32.1.Events, .slice A34 n35 c36], .row A41 n42 c43 127 4 ((recs GPlace.cells) r39.1.Places), .blk b45 59 [.int .i64 r39.1.Events, .slice A41 n42 c43], .row A48 n49 c50 127 4 ((recs GPlace.cells) r46.1.Places), .row A52 n53 c54 2 1 (ints r46.2), .blk b56 59 [.int .i64 0, .slice none 0 0]] := hs
  refine sStore (i := 14) (us := [.int .i64 r46.1.Events, .slice A48 n49 c50]) hf hs rfl rfl rfl rfl rfl rfl ti59 rfl rfl rfl (Nat.le_of_ble_eq_true rfl) rfl ?_; clear hs; intro w hs
  have hs : St [] W w [.row A6 n7 c8 127 4 ((recs GPlace.cells) r4.Places), .blk b10 59 [.int .i64 r4.Events, .slice A6 n7 c8], .row A13 n14 c15 127 4 ((recs GPlace.cells) r11.1.Places), .blk b17 59 [.int .i64 r11.1.Events, .slice A13 n14 c15], .row A20 n21 c22 127 4 ((recs GPlace.cells) r18.1.Places), .blk b24 59 [.int .i64 r18.1.Events, .slice A20 n21 c22], .row A27 n28 c29 127 4 ((recs GPlace.cells) r25.1.Places), .blk b31 59 [.int .i64 r25.1.Events, .slice A27 n28 c29], .row A34 n35 c36 127 4 ((recs GPlace.cells) r32.1.Places), .blk b38 59 [.int .i64 r32.1.Events, .slice A34 n35 c36], .row A41 n42 c43 127 4 ((recs GPlace.cells) r39.1.Places), .blk b45 59 [.int .i64 r39.1.Events, .slice A41 n42 c43], .row A48 n49 c50 127 4 ((recs GPlace.cells) r46.1.Places), .row A52 n53 c54 2 1 (ints r46.2), .blk b56 59 [.int .i64 r46.1.Events, .slice A48 n49 c50]] := hs
  refine sY hf hs rfl rfl rfl (Y_assign rfl rfl) ?_; clear hf; intro a hf
  refine wpO_nil <| wpL_seq <| wpL_region ?_
  refine sY hf hs rfl rfl rfl (Y_load_blkS rfl rfl (i := 14) rfl ag59 ti59 rfl) ?_; clear hf; intro a hf
  refine sY hf hs rfl rfl rfl (Y_move rfl rfl) ?_; clear hf; intro a hf
  obtain ⟨r57, hc58, hm⟩ := bind_some hm
  refine sCall hf rfl rfl rfl rfl (cap := []) rfl rfl en65 (impl_RelabelGraph_ok F (GEventGraph.mk r46.1.Events r46.1.Places) A48 n49 c50 hn51 r46.2 A52 n53 c54 hn55 _ _ hc58 (hs.rd (i := 12) rfl) (hs.rd (i := 13) rfl) (hs.capR (i := 13) rfl)) ?_; clear hf
  rintro _ w ⟨A59, n60, c61, rfl, hn62, hs1⟩ a hf
  have hs : St [] W w [.row A6 n7 c8 127 4 ((recs GPlace.cells) r4.Places), .blk b10 59 [.int .i64 r4.Events, .slice A6 n7 c8], .row A13 n14 c15 127 4 ((recs GPlace.cells) r11.1.Places), .blk b17 59 [.int .i64 r11.1.Events, .slice A13 n14 c15], .row A20 n21 c22 127 4 ((recs GPlace.cells) r18.1.Places), .blk b24 59 [.int .i64 r18.1.Events, .slice A20 n21 c22], .row A27 n28 c29 127 4 ((recs GPlace.cells) r25.1.Places), .blk b31 59 [.int .i64 r25.1.Events, .slice A27 n28 c29], .row A34 n35 c36 127 4 ((recs GPlace.cells) r32.1.Places), .blk b38 59 [.int .i64 r32.1.Events, .slice A34 n35 c36], .row A41 n42 c43 127 4 ((recs GPlace.cells) r39.1.Places), .blk b45 59 [.int .i64 r39.1.Events, .slice A41 n42 c43], .row A48 n49 c50 127 4 ((recs GPlace.cells) r46.1.Places), .row A52 n53 c54 2 1 (ints r46.2), .blk b56 59 [.int .i64 r46.1.Events, .slice A48 n49 c50], .row A59 n60 c61 127 4 ((recs GPlace.cells) r57.1.Places)] := hs.join hs1
  clear hs1
  refine sY hf hs rfl rfl rfl (Y_move rfl rfl) ?_; clear hf; intro a hf
  refine sY hf hs rfl rfl rfl (Y_extract rfl rfl rfl) ?_; clear hf; intro a hf
  refine sY hf hs rfl rfl rfl (Y_extract rfl rfl rfl) ?_; clear hf; intro a hf
  refine sAlloc hf hs rfl rfl rfl rfl ti59 ?_; clear hf hs; intro a w b63 hs hf
  have hs : St [] W w [.row A6 n7 c8 127 4 ((recs GPlace.cells) r4.Places), .blk b10 59 [.int .i64 r4.Events, .slice A6 n7 c8], .row A13 n14 c15 127 4 ((recs GPlace.cells) r11.1.Places), .blk b17 59 [.int .i64 r11.1.Events, .slice A13 n14 c15], .row A20 n21 c22 127 4 ((recs GPlace.cells) r18.1.Places), .blk b24 59 [.int .i64 r18.1.Events, .slice A20 n21 c22], .row A27 n28 c29 127 4 ((recs GPlace.cells) r25.1.Places), .blk b31 59 [.int .i64 r25.1.Events, .slice A27 n28 c29], .row A34 n35 c36 127 4 ((recs GPlace.cells) r32.1.Places), .blk b38 59 [.int .i64 r32.1.Events, .slice A34 n35 c36], .row A41 n42 c43 127 4 ((recs GPlace.cells) r39.1.Places), .blk b45 59 [.int .i64 r39.1.Events, .slice A41 n42 c43], .row A48 n49 c50 127 4 ((recs GPlace.cells) r46.1.Places), .row A52 n53 c54 2 1 (ints r46.2), .blk b56 59 [.int .i64 r46.1.Events, .slice A48 n49 c50], .row A59 n60 c61 127 4 ((recs GPlace.cells) r57.1.Places), .blk b63 59 [.int .i64 0, .slice none 0 0]] := hs
  refine sStore (i := 16) (us := [.int .i64 r57.1.Events, .slice A59 n60 c61]) hf hs rfl rfl rfl rfl rfl rfl ti59 rfl rfl rfl (Nat.le_of_ble_eq_true rfl) rfl ?_; clear hs; intro w hs
  have hs : St [] W w [.row A6 n7 c8 127 4 ((recs GPlace.cells) r4.Places), .blk b10 59 [.int .i64 r4.Events, .slice A6 n7 c8], .row A13 n14 c15 127 4 ((recs GPlace.cells) r11.1.Places), .blk b17 59 [.int .i64 r11.1.Events, .slice A13 n14 c15], .row A20 n21 c22 127 4 ((recs GPlace.cells) r18.1.Places), .blk b24 59 [.int .i64 r18.1.Events, .slice A20 n21 c22], .row A27 n28 c29 127 4 ((recs GPlace.cells) r25.1.Places), .blk b31 59 [.int .i64 r25.1.Events, .slice A27 n28 c29], .row A34 n35 c36 127 4 ((recs GPlace.cells) r32.1.Places), .blk b38 59 [.int .i64 r32.1.Events, .slice A34 n35 c36], .row A41 n42 c43 127 4 ((recs GPlace.cells) r39.1.Places), .blk b45 59 [.int .i64 r39.1.Events, .slice A41 n42 c43], .row A48 n49 c50 127 4 ((recs GPlace.cells) r46.1.Places), .row A52 n53 c54 2 1 (ints r46.2), .blk b56 59 [.int .i64 r46.1.Events, .slice A48 n49 c50], .row A59 n60 c61 127 4 ((recs GPlace.cells) r57.1.Places), .blk b63 59 [.int .i64 r57.1.Events, .slice A59 n60 c61]] := hs
  refine sY hf hs rfl rfl rfl (Y_assign rfl rfl) ?_; clear hf; intro a hf
  refine wpO_nil <| wpL_seq <| wpL_region ?_
  refine sY hf hs rfl rfl rfl (Y_load_blkS rfl rfl (i := 14) rfl ag59 ti59 rfl) ?_; clear hf; intro a hf
  refine sY hf hs rfl rfl rfl (Y_move rfl rfl) ?_; clear hf; intro a hf
  obtain ⟨r64, hc65, hm⟩ := bind_some hm
  refine sCall hf rfl rfl rfl rfl (cap := []) rfl rfl en66 (spec_RelabelGraph_ok F (GEventGraph.mk r46.1.Events r46.1.Places) A48 n49 c50 hn51 r46.2 A52 n53 c54 hn55 _ _ hc65 (hs.rd (i := 12) rfl) (hs.rd (i := 13) rfl) (hs.capR (i := 13) rfl)) ?_; clear hf
  rintro _ w ⟨A66, n67, c68, rfl, hn69, hs1⟩ a hf
  have hs : St [] W w [.row A6 n7 c8 127 4 ((recs GPlace.cells) r4.Places), .blk b10 59 [.int .i64 r4.Events, .slice A6 n7 c8], .row A13 n14 c15 127 4 ((recs GPlace.cells) r11.1.Places), .blk b17 59 [.int .i64 r11.1.Events, .slice A13 n14 c15], .row A20 n21 c22 127 4 ((recs GPlace.cells) r18.1.Places), .blk b24 59 [.int .i64 r18.1.Events, .slice A20 n21 c22], .row A27 n28 c29 127 4 ((recs GPlace.cells) r25.1.Places), .blk b31 59 [.int .i64 r25.1.Events, .slice A27 n28 c29], .row A34 n35 c36 127 4 ((recs GPlace.cells) r32.1.Places), .blk b38 59 [.int .i64 r32.1.Events, .slice A34 n35 c36], .row A41 n42 c43 127 4 ((recs GPlace.cells) r39.1.Places), .blk b45 59 [.int .i64 r39.1.Events, .slice A41 n42 c43], .row A48 n49 c50 127 4 ((recs GPlace.cells) r46.1.Places), .row A52 n53 c54 2 1 (ints r46.2), .blk b56 59 [.int .i64 r46.1.Events, .slice A48 n49 c50], .row A59 n60 c61 127 4 ((recs GPlace.cells) r57.1.Places), .blk b63 59 [.int .i64 r57.1.Events, .slice A59 n60 c61], .row A66 n67 c68 127 4 ((recs GPlace.cells) r64.1.Places)] := hs.join hs1
  clear hs1
  refine sY hf hs rfl rfl rfl (Y_move rfl rfl) ?_; clear hf; intro a hf
  refine sY hf hs rfl rfl rfl (Y_extract rfl rfl rfl) ?_; clear hf; intro a hf
  refine sY hf hs rfl rfl rfl (Y_extract rfl rfl rfl) ?_; clear hf; intro a hf
  refine sAlloc hf hs rfl rfl rfl rfl ti59 ?_; clear hf hs; intro a w b70 hs hf
  have hs : St [] W w [.row A6 n7 c8 127 4 ((recs GPlace.cells) r4.Places), .blk b10 59 [.int .i64 r4.Events, .slice A6 n7 c8], .row A13 n14 c15 127 4 ((recs GPlace.cells) r11.1.Places), .blk b17 59 [.int .i64 r11.1.Events, .slice A13 n14 c15], .row A20 n21 c22 127 4 ((recs GPlace.cells) r18.1.Places), .blk b24 59 [.int .i64 r18.1.Events, .slice A20 n21 c22], .row A27 n28 c29 127 4 ((recs GPlace.cells) r25.1.Places), .blk b31 59 [.int .i64 r25.1.Events, .slice A27 n28 c29], .row A34 n35 c36 127 4 ((recs GPlace.cells) r32.1.Places), .blk b38 59 [.int .i64 r32.1.Events, .slice A34 n35 c36], .row A41 n42 c43 127 4 ((recs GPlace.cells) r39.1.Places), .blk b45 59 [.int .i64 r39.1.Events, .slice A41 n42 c43], .row A48 n49 c50 127 4 ((recs GPlace.cells) r46.1.Places), .row A52 n53 c54 2 1 (ints r46.2), .blk b56 59 [.int .i64 r46.1.Events, .slice A48 n49 c50], .row A59 n60 c61 127 4 ((recs GPlace.cells) r57.1.Places), .blk b63 59 [.int .i64 r57.1.Events, .slice A59 n60 c61], .row A66 n67 c68 127 4 ((recs GPlace.cells) r64.1.Places), .blk b70 59 [.int .i64 0, .slice none 0 0]] := hs
  refine sStore (i := 18) (us := [.int .i64 r64.1.Events, .slice A66 n67 c68]) hf hs rfl rfl rfl rfl rfl rfl ti59 rfl rfl rfl (Nat.le_of_ble_eq_true rfl) rfl ?_; clear hs; intro w hs
  have hs : St [] W w [.row A6 n7 c8 127 4 ((recs GPlace.cells) r4.Places), .blk b10 59 [.int .i64 r4.Events, .slice A6 n7 c8], .row A13 n14 c15 127 4 ((recs GPlace.cells) r11.1.Places), .blk b17 59 [.int .i64 r11.1.Events, .slice A13 n14 c15], .row A20 n21 c22 127 4 ((recs GPlace.cells) r18.1.Places), .blk b24 59 [.int .i64 r18.1.Events, .slice A20 n21 c22], .row A27 n28 c29 127 4 ((recs GPlace.cells) r25.1.Places), .blk b31 59 [.int .i64 r25.1.Events, .slice A27 n28 c29], .row A34 n35 c36 127 4 ((recs GPlace.cells) r32.1.Places), .blk b38 59 [.int .i64 r32.1.Events, .slice A34 n35 c36], .row A41 n42 c43 127 4 ((recs GPlace.cells) r39.1.Places), .blk b45 59 [.int .i64 r39.1.Events, .slice A41 n42 c43], .row A48 n49 c50 127 4 ((recs GPlace.cells) r46.1.Places), .row A52 n53 c54 2 1 (ints r46.2), .blk b56 59 [.int .i64 r46.1.Events, .slice A48 n49 c50], .row A59 n60 c61 127 4 ((recs GPlace.cells) r57.1.Places), .blk b63 59 [.int .i64 r57.1.Events, .slice A59 n60 c61], .row A66 n67 c68 127 4 ((recs GPlace.cells) r64.1.Places), .blk b70 59 [.int .i64 r64.1.Events, .slice A66 n67 c68]] := hs
  refine sY hf hs rfl rfl rfl (Y_assign rfl rfl) ?_; clear hf; intro a hf
  refine wpO_nil <| wpL_seq <| wpL_region ?_
  refine sY hf hs rfl rfl rfl (Y_move rfl rfl) ?_; clear hf; intro a hf
  obtain ⟨r71, hc72, hm⟩ := bind_some hm
  refine sCall hf rfl rfl rfl rfl (cap := []) rfl rfl en67 (spec_DrawPartOfGraph_ok F p0 av p0.length aw rfl _ _ hc72 (aX.at hs)) ?_; clear hf
  rintro _ w ⟨A73, n74, c75, A77, n78, c79, rfl, hn76, hn80, hs1⟩ a hf
  have hs : St [] W w [.row A6 n7 c8 127 4 ((recs GPlace.cells) r4.Places), .blk b10 59 [.int .i64 r4.Events, .slice A6 n7 c8], .row A13 n14 c15 127 4 ((recs GPlace.cells) r11.1.Places), .blk b17 59 [.int .i64 r11.1.Events, .slice A13 n14 c15], .row A20 n21 c22 127 4 ((recs GPlace.cells) r18.1.Places), .blk b24 59 [.int .i64 r18.1.Events, .slice A20 n21 c22], .row A27 n28 c29 127 4 ((recs GPlace.cells) r25.1.Places), .blk b31 59 [.int .i64 r25.1.Events, .slice A27 n28 c29], .row A34 n35 c36 127 4 ((recs GPlace.cells) r32.1.Places), .blk b38 59 [.int .i64 r32.1.Events, .slice A34 n35 c36], .row A41 n42 c43 127 4 ((recs GPlace.cells) r39.1.Places), .blk b45 59 [.int .i64 r39.1.Events, .slice A41 n42 c43], .row A48 n49 c50 127 4 ((recs GPlace.cells) r46.1.Places), .row A52 n53 c54 2 1 (ints r46.2), .blk b56 59 [.int .i64 r46.1.Events, .slice A48 n49 c50], .row A59 n60 c61 127 4 ((recs GPlace.cells) r57.1.Places), .blk b63 59 [.int .i64 r57.1.Events, .slice A59 n60 c61], .row A66 n67 c68 127 4 ((recs GPlace.cells) r64.1.Places), .blk b70 59 [.int .i64 r64.1.Events, .slice A66 n67 c68], .row A73 n74 c75 127 4 ((recs GPlace.cells) r71.1.Places), .row A77 n78 c79 2 1 (ints r71.2)] := hs.join hs1
  clear hs1
  refine sY hf hs rfl rfl rfl (Y_move rfl rfl) ?_; clear hf; intro a hf
  refine sY hf hs rfl rfl rfl (Y_extract rfl rfl rfl) ?_; clear hf; intro a hf
  refine sY hf hs rfl rfl rfl (Y_extract rfl rfl rfl) ?_; clear hf; intro a hf
  refine sAlloc hf hs rfl rfl rfl rfl ti59 ?_; clear hf hs; intro a w b81 hs hf
  have hs : St [] W w [.row A6 n7 c8 127 4 ((recs GPlace.cells) r4.Places), .blk b10 59 [.int .i64 r4.Events, .slice A6 n7 c8], .row A13 n14 c15 127 4 ((recs GPlace.cells) r11.1.Places), .blk b17 59 [.int .i64 r11.1.Events, .slice A13 n14 c15], .row A20 n21 c22 127 4 ((recs GPlace.cells) r18.1.Places), .blk b24 59 [.int .i64 r18.1.Events, .slice A20 n21 c22], .row A27 n28 c29 127 4 ((recs GPlace.cells) r25.1.Places), .blk b31 59 [.int .i64 r25.1.Events, .slice A27 n28 c29], .row A34 n35 c36 127 4 ((recs GPlace.cells) r32.1.Places), .blk b38 59 [.int .i64 r32.1.Events, .slice A34 n35 c36], .row A41 n42 c43 127 4 ((recs GPlace.cells) r39.1.Places), .blk b45 59 [.int .i64 r39.1.Events, .slice A41 n42 c43], .row A48 n49 c50 127 4 ((recs GPlace.cells) r46.1.Places), .row A52 n53 c54 2 1 (ints r46.2), .blk b56 59 [.int .i64 r46.1.Events, .slice A48 n49 c50], .row A59 n60 c61 127 4 ((recs GPlace.cells) r57.1.Places), .blk b63 59 [.int .i64 r57.1.Events, .slice A59 n60 c61], .row A66 n67 c68 127 4 ((recs GPlace.cells) r64.1.Places), .blk b70 59 [.int .i64 r64.1.Events, .slice A66 n67 c68], .row A73 n74 c75 127 4 ((recs GPlace.cells) r71.1.Places), .row A77 n78 c79 2 1 (ints r71.2), .blk b81 59 [.int .i64 0, .slice none 0 0]] := hs
  refine sStore (i := 21) (us := [.int .i64 r71.1.Events, .slice A73 n74 c75]) hf hs rfl rfl rfl rfl rfl rfl ti59 rfl rfl rfl (Nat.le_of_ble_eq_true rfl) rfl ?_; clear hs; intro w hs
  have hs : St [] W w [.row A6 n7 c8 127 4 ((recs GPlace.cells) r4.Places), .blk b10 59 [.int .i64 r4.Events, .slice A6 n7 c8], .row A13 n14 c15 127 4 ((recs GPlace.cells) r11.1.Places), .blk b17 59 [.int .i64 r11.1.Events, .slice A13 n14 c15], .row A20 n21 c22 127 4 ((recs GPlace.cells) r18.1.Places), .blk b24 59 [.int .i64 r18.1.Events, .slice A20 n21 c22], .row A27 n28 c29 127 4 ((recs GPlace.cells) r25.1.Places), .blk b31 59 [.int .i64 r25.1.Events, .slice A27 n28 c29], .row A34 n35 c36 127 4 ((recs GPlace.cells) r32.1.Places), .blk b38 59 [.int .i64 r32.1.Events, .slice A34 n35 c36], .row A41 n42 c43 127 4 ((recs GPlace.cells) r39.1.Places), .blk b45 59 [.int .i64 r39.1.Events, .slice A41 n42 c43], .row A48 n49 c50 127 4 ((recs GPlace.cells) r46.1.Places), .row A52 n53 c54 2 1 (ints r46.2), .blk b56 59 [.int .i64 r46.1.Events, .slice A48 n49 c50], .row A59 n60 c61 127 4 ((recs GPlace.cells) r57.1.Places), .blk b63 59 [.int .i64 r57.1.Events, .slice A59 n60 c61], .row A66 n67 c68 127 4 ((recs GPlace.cells) r64.1.Places), .blk b70 59 [.int .i64 r64.1.Events, .slice A66 n67 c68], .row A73 n74 c75 127 4 ((recs GPlace.cells) r71.1.Places), .row A77 n78 c79 2 1 (ints r71.2), .blk b81 59 [.int .i64 r71.1.Events, .slice A73 n74 c75]] := hs
  refine sY hf hs rfl rfl rfl (Y_assign rfl rfl) ?_; clear hf; intro a hf
  refine wpO_nil <| wpL_seq <| wpL_region ?_
  refine sY hf hs rfl rfl rfl (Y_load_blkS rfl rfl (i := 21) rfl ag59 ti59 rfl) ?_; clear hf; intro a hf
  refine sY hf hs rfl rfl rfl (Y_move rfl rfl) ?_; clear hf; intro a hf
  obtain ⟨r82, hc83, hm⟩ := bind_some hm
  refine sCall hf rfl rfl rfl rfl (cap := []) rfl rfl en53 (impl_PartOfGraph_ok F (GEventGraph.mk r71.1.Events r71.1.Places) A73 n74 c75 hn76 r71.2 A77 n78 c79 hn80 _ _ hc83 (hs.rd (i := 19) rfl) (hs.rd (i := 20) rfl)) ?_; clear hf
  rintro _ w ⟨A84, n85, c86, rfl, hn87, hs1⟩ a hf
  have hs : St [] W w [.row A6 n7 c8 127 4 ((recs GPlace.cells) r4.Places), .blk b10 59 [.int .i64 r4.Events, .slice A6 n7 c8], .row A13 n14 c15 127 4 ((recs GPlace.cells) r11.1.Places), .blk b17 59 [.int .i64 r11.1.Events, .slice A13 n14 c15], .row A20 n21 c22 127 4 ((recs GPlace.cells) r18.1.Places), .blk b24 59 [.int .i64 r18.1.Events, .slice A20 n21 c22], .row A27 n28 c29 127 4 ((recs GPlace.cells) r25.1.Places), .blk b31 59 [.int .i64 r25.1.Events, .slice A27 n28 c29], .row A34 n35 c36 127 4 ((recs GPlace.cells) r32.1.Places), .blk b38 59 [.int .i64 r32.1.Events, .slice A34 n35 c36], .row A41 n42 c43 127 4 ((recs GPlace.cells) r39.1.Places), .blk b45 59 [.int .i64 r39.1.Events, .slice A41 n42 c43], .row A48 n49 c50 127 4 ((recs GPlace.cells) r46.1.Places), .row A52 n53 c54 2 1 (ints r46.2), .blk b56 59 [.int .i64 r46.1.Events, .slice A48 n49 c50], .row A59 n60 c61 127 4 ((recs GPlace.cells) r57.1.Places), .blk b63 59 [.int .i64 r57.1.Events, .slice A59 n60 c61], .row A66 n67 c68 127 4 ((recs GPlace.cells) r64.1.Places), .blk b70 59 [.int .i64 r64.1.Events, .slice A66 n67 c68], .row A73 n74 c75 127 4 ((recs GPlace.cells) r71.1.Places), .row A77 n78 c79 2 1 (ints r71.2), .blk b81 59 [.int .i64 r71.1.Events, .slice A73 n74 c75], .row A84 n85 c86 127 4 ((recs GPlace.cells) r82.1.Places)] := hs.join hs1
  clear hs1
  refine sY hf hs rfl rfl rfl (Y_move rfl rfl) ?_; clear hf; intro a hf
  refine sY hf hs rfl rfl rfl (Y_extract rfl rfl rfl) ?_; clear hf; intro a hf
  refine sY hf hs rfl rfl rfl (Y_extract rfl rfl rfl) ?_; clear hf; intro a hf
  refine sAlloc hf hs rfl rfl rfl rfl ti59 ?_; clear hf hs; intro a w b88 hs hf
  have hs : St [] W w [.row A6 n7 c8 127 4 ((recs GPlace.cells) r4.Places), .blk b10 59 [.int .i64 r4.Events, .slice A6 n7 c8], .row A13 n14 c15 127 4 ((recs GPlace.cells) r11.1.Places), .blk b17 59 [.int .i64 r11.1.Events, .slice A13 n14 c15], .row A20 n21 c22 127 4 ((recs GPlace.cells) r18.1.Places), .blk b24 59 [.int .i64 r18.1.Events, .slice A20 n21 c22], .row A27 n28 c29 127 4 ((recs GPlace.cells) r25.1.Places), .blk b31 59 [.int .i64 r25.1.Events, .slice A27 n28 c29], .row A34 n35 c36 127 4 ((recs GPlace.cells) r32.1.Places), .blk b38 59 [.int .i64 r32.1.Events, .slice A34 n35 c36], .row A41 n42 c43 127 4 ((recs GPlace.cells) r39.1.Places), .blk b45 59 [.int .i64 r39.1.Events, .slice A41 n42 c43], .row A48 n49 c50 127 4 ((recs GPlace.cells) r46.1.Places), .row A52 n53 c54 2 1 (ints r46.2), .blk b56 59 [.int .i64 r46.1.Events, .slice A48 n49 c50], .row A59 n60 c61 127 4 ((recs GPlace.cells) r57.1.Places), .blk b63 59 [.int .i64 r57.1.Events, .slice A59 n60 c61], .row A66 n67 c68 127 4 ((recs GPlace.cells) r64.1.Places), .blk b70 59 [.int .i64 r64.1.Events, .slice A66 n67 c68], .row A73 n74 c75 127 4 ((recs GPlace.cells) r71.1.Places), .row A77 n78 c79 2 1 (ints r71.2), .blk b81 59 [.int .i64 r71.1.Events, .slice A73 n74 c75], .row A84 n85 c86 127 4 ((recs GPlace.cells) r82.1.Places), .blk b88 59 [.int .i64 0, .slice none 0 0]] := hs
  refine sStore (i := 23) (us := [.int .i64 r82.1.Events, .slice A84 n85 c86]) hf hs rfl rfl rfl rfl rfl rfl ti59 rfl rfl rfl (Nat.le_of_ble_eq_true rfl) rfl ?_; clear hs; intro w hs
  have hs : St [] W w [.row A6 n7 c8 127 4 ((recs GPlace.cells) r4.Places), .blk b10 59 [.int .i64 r4.Events, .slice A6 n7 c8], .row A13 n14 c15 127 4 ((recs GPlace.cells) r11.1.Places), .blk b17 59 [.int .i64 r11.1.Events, .slice A13 n14 c15], .row A20 n21 c22 127 4 ((recs GPlace.cells) r18.1.Places), .blk b24 59 [.int .i64 r18.1.Events, .slice A20 n21 c22], .row A27 n28 c29 127 4 ((recs GPlace.cells) r25.1.Places), .blk b31 59 [.int .i64 r25.1.Events, .slice A27 n28 c29], .row A34 n35 c36 127 4 ((recs GPlace.cells) r32.1.Places), .blk b38 59 [.int .i64 r32.1.Events, .slice A34 n35 c36], .row A41 n42 c43 127 4 ((recs GPlace.cells) r39.1.Places), .blk b45 59 [.int .i64 r39.1.Events, .slice A41 n42 c43], .row A48 n49 c50 127 4 ((recs GPlace.cells) r46.1.Places), .row A52 n53 c54 2 1 (ints r46.2), .blk b56 59 [.int .i64 r46.1.Events, .slice A48 n49 c50], .row A59 n60 c61 127 4 ((recs GPlace.cells) r57.1.Places), .blk b63 59 [.int .i64 r57.1.Events, .slice A59 n60 c61], .row A66 n67 c68 127 4 ((recs GPlace.cells) r64.1.Places), .blk b70 59 [.int .i64 r64.1.Events, .slice A66 n67 c68], .row A73 n74 c75 127 4 ((recs GPlace.cells) r71.1.Places), .row A77 n78 c79 2 1 (ints r71.2), .blk b81 59 [.int .i64 r71.1.Events, .slice A73 n74 c75], .row A84 n85 c86 127 4 ((recs GPlace.cells) r82.1.Places), .blk b88 59 [.int .i64 r82.1.Events, .slice A84 n85 c86]] := hs
  refine sY hf hs rfl rfl rfl (Y_assign rfl rfl) ?_; clear hf; intro a hf
  refine wpO_nil <| wpL_seq <| wpL_region ?_
  refine sY hf hs rfl rfl rfl (Y_load_blkS rfl rfl (i := 21) rfl ag59 ti59 rfl) ?_; clear hf; intro a hf
  refine sY hf hs rfl rfl rfl (Y_move rfl rfl) ?_; clear hf; intro a hf
  obtain ⟨r89, hc90, hm⟩ := bind_some hm
  refine sCall hf rfl rfl rfl rfl (cap := []) rfl rfl en68 (spec_PartOfGraph_ok F (GEventGraph.mk r71.1.Events r71.1.Places) A73 n74 c75 hn76 r71.2 A77 n78 c79 hn80 _ _ hc90 (hs.rd (i := 19) rfl) (hs.rd (i := 20) rfl)) ?_; clear hf
  rintro _ w ⟨A91, n92, c93, rfl, hn94, hs1⟩ a hf
  have hs : St [] W w [.row A6 n7 c8 127 4 ((recs GPlace.cells) r4.Places), .blk b10 59 [.int .i64 r4.Events, .slice A6 n7 c8], .row A13 n14 c15 127 4 ((recs GPlace.cells) r11.1.Places), .blk b17 59 [.int .i64 r11.1.Events, .slice A13 n14 c15], .row A20 n21 c22 127 4 ((recs GPlace.cells) r18.1.Places), .blk b24 59 [.int .i64 r18.1.Events, .slice A20 n21 c22], .row A27 n28 c29 127 4 ((recs GPlace.cells) r25.1.Places), .blk b31 59 [.int .i64 r25.1.Events, .slice A27 n28 c29], .row A34 n35 c36 127 4 ((recs GPlace.cells) r32.1.Places), .blk b38 59 [.int .i64 r32.1.Events, .slice A34 n35 c36], .row A41 n42 c43 127 4 ((recs GPlace.cells) r39.1.Places), .blk b45 59 [.int .i64 r39.1.Events, .slice A41 n42 c43], .row A48 n49 c50 127 4 ((recs GPlace.cells) r46.1.Places), .row A52 n53 c54 2 1 (ints r46.2), .blk b56 59 [.int .i64 r46.1.Events, .slice A48 n49 c50], .row A59 n60 c61 127 4 ((recs GPlace.cells) r57.1.Places), .blk b63 59 [.int .i64 r57.1.Events, .slice A59 n60 c61], .row A66 n67 c68 127 4 ((recs GPlace.cells) r64.1.Places), .blk b70 59 [.int .i64 r64.1.Events, .slice A66 n67 c68], .row A73 n74 c75 127 4 ((recs GPlace.cells) r71.1.Places), .row A77 n78 c79 2 1 (ints r71.2), .blk b81 59 [.int .i64 r71.1.Events, .slice A73 n74 c75], .row A84 n85 c86 127 4 ((recs GPlace.cells) r82.1.Places), .blk b88 59 [.int .i64 r82.1.Events, .slice A84 n85 c86], .row A91 n92 c93 127 4 ((recs GPlace.cells) r89.1.Places)] := hs.join hs1
  clear hs1
  refine sY hf hs rfl rfl rfl (Y_move rfl rfl) ?_; clear hf; intro a hf
  refine sY hf hs rfl rfl rfl (Y_extract rfl rfl rfl) ?_; clear hf; intro a hf
  refine sY hf hs rfl rfl rfl (Y_extract rfl rfl rfl) ?_; clear hf; intro a hf
  refine sAlloc hf hs rfl rfl rfl rfl ti59 ?_; clear hf hs; intro a w b95 hs hf
  have hs : St [] W w [.row A6 n7 c8 127 4 ((recs GPlace.cells) r4.Places), .blk b10 59 [.int .i64 r4.Events, .slice A6 n7 c8], .row A13 n14 c15 127 4 ((recs GPlace.cells) r11.1.Places), .blk b17 59 [.int .i64 r11.1.Events, .slice A13 n14 c15], .row A20 n21 c22 127 4 ((recs GPlace.cells) r18.1.Places), .blk b24 59 [.int .i64 r18.1.Events, .slice A20 n21 c22], .row A27 n28 c29 127 4 ((recs GPlace.cells) r25.1.Places), .blk b31 59 [.int .i64 r25.1.Events, .slice A27 n28 c29], .row A34 n35 c36 127 4 ((recs GPlace.cells) r32.1.Places), .blk b38 59 [.int .i64 r32.1.Events, .slice A34 n35 c36], .row A41 n42 c43 127 4 ((recs GPlace.cells) r39.1.Places), .blk b45 59 [.int .i64 r39.1.Events, .slice A41 n42 c43], .row A48 n49 c50 127 4 ((recs GPlace.cells) r46.1.Places), .row A52 n53 c54 2 1 (ints r46.2), .blk b56 59 [.int .i64 r46.1.Events, .slice A48 n49 c50], .row A59 n60 c61 127 4 ((recs GPlace.cells) r57.1.Places), .blk b63 59 [.int .i64 r57.1.Events, .slice A59 n60 c61], .row A66 n67 c68 127 4 ((recs GPlace.cells) r64.1.Places), .blk b70 59 [.int .i64 r64.1.Events, .slice A66 n67 c68], .row A73 n74 c75 127 4 ((recs GPlace.cells) r71.1.Places), .row A77 n78 c79 2 1 (ints r71.2), .blk b81 59 [.int .i64 r71.1.Events, .slice A73 n74 c75], .row A84 n85 c86 127 4 ((recs GPlace.cells) r82.1.Places), .blk b88 59 [.int .i64 r82.1.Events, .slice A84 n85 c86], .row A91 n92 c93 127 4 ((recs GPlace.cells) r89.1.Places), .blk b95 59 [.int .i64 0, .slice none 0 0]] := hs
  refine sStore (i := 25) (us := [.int .i64 r89.1.Events, .slice A91 n92 c93]) hf hs rfl rfl rfl rfl rfl rfl ti59 rfl rfl rfl (Nat.le_of_ble_eq_true rfl) rfl ?_; clear hs; intro w hs
  have hs : St [] W w [.row A6 n7 c8 127 4 ((recs GPlace.cells) r4.Places), .blk b10 59 [.int .i64 r4.Events, .slice A6 n7 c8], .row A13 n14 c15 127 4 ((recs GPlace.cells) r11.1.Places), .blk b17 59 [.int .i64 r11.1.Events, .slice A13 n14 c15], .row A20 n21 c22 127 4 ((recs GPlace.cells) r18.1.Places), .blk b24 59 [.int .i64 r18.1.Events, .slice A20 n21 c22], .row A27 n28 c29 127 4 ((recs GPlace.cells) r25.1.Places), .blk b31 59 [.int .i64 r25.1.Events, .slice A27 n28 c29], .row A34 n35 c36 127 4 ((recs GPlace.cells) r32.1.Places), .blk b38 59 [.int .i64 r32.1.Events, .slice A34 n35 c36], .row A41 n42 c43 127 4 ((recs GPlace.cells) r39.1.Places), .blk b45 59 [.int .i64 r39.1.Events, .slice A41 n42 c43], .row A48 n49 c50 127 4 ((recs GPlace.cells) r46.1.Places), .row A52 n53 c54 2 1 (ints r46.2), .blk b56 59 [.int .i64 r46.1.Events, .slice A48 n49 c50], .row A59 n60 c61 127 4 ((recs GPlace.cells) r57.1.Places), .blk b63 59 [.int .i64 r57.1.Events, .slice A59 n60 c61], .row A66 n67 c68 127 4 ((recs GPlace.cells) r64.1.Places), .blk b70 59 [.int .i64 r64.1.Events, .slice A66 n67 c68], .row A73 n74 c75 127 4 ((recs GPlace.cells) r71.1.Places), .row A77 n78 c79 2 1 (ints r71.2), .blk b81 59 [.int .i64 r71.1.Events, .slice A73 n74 c75], .row A84 n85 c86 127 4 ((recs GPlace.cells) r82.1.Places), .blk b88 59 [.int .i64 r82.1.Events, .slice A84 n85 c86], .row A91 n92 c93 127 4 ((recs GPlace.cells) r89.1.Places), .blk b95 59 [.int .i64 r89.1.Events, .slice A91 n92 c93]] := hs
  refine sY hf hs rfl rfl rfl (Y_assign rfl rfl) ?_; clear hf; intro a hf
  refine wpO_nil <| wpL_seq <| wpL_seq ?_
  obtain ⟨r112, hj113, hm⟩ := bind_some hm
  refine wpL_cut (fun a w => ∃ b111 : Bool, b111 = r112 ∧ Fr a 243 [(3, .pointer (some ⟨b10, 0, none⟩)), (4, .pointer (some ⟨b17, 0, none⟩)), (5, .int .i64 r11.2), (8, .pointer (some ⟨b31, 0, none⟩)), (9, .int .i64 r25.2), (10, .pointer (some ⟨b38, 0, none⟩)), (11, .int .i64 r32.2), (14, .pointer (some ⟨b56, 0, none⟩)), (15, .slice A52 n53 c54), (16, .pointer (some ⟨b63, 0, none⟩)), (17, .int .i64 r57.2), (144, .bool b111)] ∧ St [] W w [.blk b10 59 [.int .i64 r4.Events, .slice A6 n7 c8], .row A6 n7 c8 127 4 ((recs GPlace.cells) r4.Places), .blk b17 59 [.int .i64 r11.1.Events, .slice A13 n14 c15], .row A13 n14 c15 127 4 ((recs GPlace.cells) r11.1.Places), .blk b31 59 [.int .i64 r25.1.Events, .slice A27 n28 c29], .row A27 n28 c29 127 4 ((recs GPlace.cells) r25.1.Places), .blk b38 59 [.int .i64 r32.1.Events, .slice A34 n35 c36], .row A34 n35 c36 127 4 ((recs GPlace.cells) r32.1.Places), .blk b56 59 [.int .i64 r46.1.Events, .slice A48 n49 c50], .row A48 n49 c50 127 4 ((recs GPlace.cells) r46.1.Places), .row A52 n53 c54 2 1 (ints r46.2), .blk b63 59 [.int .i64 r57.1.Events, .slice A59 n60 c61], .row A59 n60 c61 127 4 ((recs GPlace.cells) r57.1.Places)]) ?_ ?_
  ·refine wpL_region ?_
   refine sY hf hs rfl rfl rfl (Y_move rfl rfl) ?_; clear hf; intro a hf
   refine sY hf hs rfl rfl rfl (Y_move rfl rfl) ?_; clear hf; intro a hf
   refine sY hf hs rfl rfl rfl (Y_neq rfl rfl rfl) ?_; clear hf; intro a hf
   refine sY hf hs rfl rfl rfl (Y_move rfl rfl) ?_; clear hf; intro a hf
   refine bsplit (r11.2 != r18.2) (fun hb114 => ?_) (fun hb114 => ?_)
   ·have hj113 := bif_t hj113 hb114
    refine sNo hf rfl rfl rfl (congrArg (fun b => some (Value.bool b)) hb114) rfl rfl rfl ?_; clear hf; intro a hf
    refine sNo hf rfl rfl rfl (congrArg (fun b => some (Value.bool b)) hb114) rfl rfl rfl ?_; clear hf; intro a hf
    refine sNo hf rfl rfl rfl (congrArg (fun b => some (Value.bool b)) hb114) rfl rfl rfl ?_; clear hf; intro a hf
    refine sNo hf rfl rfl rfl (congrArg (fun b => some (Value.bool b)) hb114) rfl rfl rfl ?_; clear hf; intro a hf
    refine sY hf hs rfl rfl rfl (Y_pickT rfl (congrArg (fun b => some (Value.bool b)) hb114) rfl) ?_; clear hf; intro a hf
    refine sY hf hs rfl rfl rfl (Y_move rfl rfl) ?_; clear hf; intro a hf
    refine sNo hf rfl rfl rfl rfl rfl rfl rfl ?_; clear hf; intro a hf
    refine sNo hf rfl rfl rfl rfl rfl rfl rfl ?_; clear hf; intro a hf
    refine sNo hf rfl rfl rfl rfl rfl rfl rfl ?_; clear hf; intro a hf
    refine sY hf hs rfl rfl rfl (Y_pickT rfl rfl rfl) ?_; clear hf; intro a hf
    refine sY hf hs rfl rfl rfl (Y_move rfl rfl) ?_; clear hf; intro a hf
    refine sNo hf rfl rfl rfl rfl rfl rfl rfl ?_; clear hf; intro a hf
    refine sNo hf rfl rfl rfl rfl rfl rfl rfl ?_; clear hf; intro a hf
    refine sNo hf rfl rfl rfl rfl rfl rfl rfl ?_; clear hf; intro a hf
    refine sNo hf rfl rfl rfl rfl rfl rfl rfl ?_; clear hf; intro a hf
    refine sY hf hs rfl rfl rfl (Y_pickT rfl rfl rfl) ?_; clear hf; intro a hf
    refine sY hf hs rfl rfl rfl (Y_move rfl rfl) ?_; clear hf; intro a hf
    refine sNo hf rfl rfl rfl rfl rfl rfl rfl ?_; clear hf; intro a hf
    refine sNo hf rfl rfl rfl rfl rfl rfl rfl ?_; clear hf; intro a hf
    refine sNo hf rfl rfl rfl rfl rfl rfl rfl ?_; clear hf; intro a hf
    refine sY hf hs rfl rfl rfl (Y_pickT rfl rfl rfl) ?_; clear hf; intro a hf
    refine sY hf hs rfl rfl rfl (Y_move rfl rfl) ?_; clear hf; intro a hf
    refine sNo hf rfl rfl rfl rfl rfl rfl rfl ?_; clear hf; intro a hf
    refine sNo hf rfl rfl rfl rfl rfl rfl rfl ?_; clear hf; intro a hf
    refine sNo hf rfl rfl rfl rfl rfl rfl rfl ?_; clear hf; intro a hf
    refine sNo hf rfl rfl rfl rfl rfl rfl rfl ?_; clear hf; intro a hf
    refine sY hf hs rfl rfl rfl (Y_pickT rfl rfl rfl) ?_; clear hf; intro a hf
    refine sY hf hs rfl rfl rfl (Y_move rfl rfl) ?_; clear hf; intro a hf
    refine sNo hf rfl rfl rfl rfl rfl rfl rfl ?_; clear hf; intro a hf
    refine sNo hf rfl rfl rfl rfl rfl rfl rfl ?_; clear hf; intro a hf
    refine sNo hf rfl rfl rfl rfl rfl rfl rfl ?_; clear hf; intro a hf
    refine sY hf hs rfl rfl rfl (Y_pickT rfl rfl rfl) ?_; clear hf; intro a hf
    refine sY hf hs rfl rfl rfl (Y_move rfl rfl) ?_; clear hf; intro a hf
    refine sNo hf rfl rfl rfl rfl rfl rfl rfl ?_; clear hf; intro a hf
    refine sNo hf rfl rfl rfl rfl rfl rfl rfl ?_; clear hf; intro a hf
    refine sNo hf rfl rfl rfl rfl rfl rfl rfl ?_; clear hf; intro a hf
    refine sNo hf rfl rfl rfl rfl rfl rfl rfl ?_; clear hf; intro a hf
    refine sY hf hs rfl rfl rfl (Y_pickT rfl rfl rfl) ?_; clear hf; intro a hf
    refine wpO_nil ?_
    refine wpL_nil (then_normal ?_)
    exact ⟨true, Option.some.inj hj113, (FrD.pick (FrD.pick (FrD.pick (FrD.pick (FrD.pick (FrD.pick (FrD.pick (FrD.pick (FrD.pick (FrD.pick (FrD.pick (FrD.pick hf.none hf rfl) hf rfl) hf rfl) hf rfl) hf rfl) hf rfl) hf rfl) hf rfl) hf rfl) hf rfl) hf rfl) hf rfl), hs.sel [1, 0, 3, 2, 7, 6, 9, 8, 14, 12, 13, 16, 15] (by decide)⟩
   ·have hj113 := bif_f hj113 hb114
    refine sYg hf hs rfl rfl rfl (congrArg (fun b => some (Value.bool b)) hb114) rfl rfl rfl (Y_load_blkS rfl rfl (i := 3) rfl ag59 ti59 rfl) ?_; clear hf; intro a hf
    refine sYg hf hs rfl rfl rfl (congrArg (fun b => some (Value.bool b)) hb114) rfl rfl rfl (Y_load_blkS rfl rfl (i := 5) rfl ag59 ti59 rfl) ?_; clear hf; intro a hf
    obtain ⟨r115, hc116, hj113⟩ := bind_some hj113
    refine sCallg hf rfl rfl rfl (congrArg (fun b => some (Value.bool b)) hb114) rfl rfl rfl rfl (cap := []) rfl rfl en50 (laws_likeGraphs9_ok F (GEventGraph.mk r11.1.Events r11.1.Places) A13 n14 c15 hn16 (GEventGraph.mk r18.1.Events r18.1.Places) A20 n21 c22 hn23 _ _ hc116 (hs.rd (i := 2) rfl) (hs.rd (i := 4) rfl)) ?_; clear hf
    rintro _ w ⟨rfl, hs1⟩ a hf
    have hs : St [] W w [.row A6 n7 c8 127 4 ((recs GPlace.cells) r4.Places), .blk b10 59 [.int .i64 r4.Events, .slice A6 n7 c8], .row A13 n14 c15 127 4 ((recs GPlace.cells) r11.1.Places), .blk b17 59 [.int .i64 r11.1.Events, .slice A13 n14 c15], .row A20 n21 c22 127 4 ((recs GPlace.cells) r18.1.Places), .blk b24 59 [.int .i64 r18.1.Events, .slice A20 n21 c22], .row A27 n28 c29 127 4 ((recs GPlace.cells) r25.1.Places), .blk b31 59 [.int .i64 r25.1.Events, .slice A27 n28 c29], .row A34 n35 c36 127 4 ((recs GPlace.cells) r32.1.Places), .blk b38 59 [.int .i64 r32.1.Events, .slice A34 n35 c36], .row A41 n42 c43 127 4 ((recs GPlace.cells) r39.1.Places), .blk b45 59 [.int .i64 r39.1.Events, .slice A41 n42 c43], .row A48 n49 c50 127 4 ((recs GPlace.cells) r46.1.Places), .row A52 n53 c54 2 1 (ints r46.2), .blk b56 59 [.int .i64 r46.1.Events, .slice A48 n49 c50], .row A59 n60 c61 127 4 ((recs GPlace.cells) r57.1.Places), .blk b63 59 [.int .i64 r57.1.Events, .slice A59 n60 c61], .row A66 n67 c68 127 4 ((recs GPlace.cells) r64.1.Places), .blk b70 59 [.int .i64 r64.1.Events, .slice A66 n67 c68], .row A73 n74 c75 127 4 ((recs GPlace.cells) r71.1.Places), .row A77 n78 c79 2 1 (ints r71.2), .blk b81 59 [.int .i64 r71.1.Events, .slice A73 n74 c75], .row A84 n85 c86 127 4 ((recs GPlace.cells) r82.1.Places), .blk b88 59 [.int .i64 r82.1.Events, .slice A84 n85 c86], .row A91 n92 c93 127 4 ((recs GPlace.cells) r89.1.Places), .blk b95 59 [.int .i64 r89.1.Events, .slice A91 n92 c93]] := hs.ext hs1.below
    clear hs1
    refine sYg hf hs rfl rfl rfl (congrArg (fun b => some (Value.bool b)) hb114) rfl rfl rfl (Y_not rfl rfl) ?_; clear hf; intro a hf
    refine sY hf hs rfl rfl rfl (Y_pickF rfl (congrArg (fun b => some (Value.bool b)) hb114) rfl) ?_; clear hf; intro a hf
    refine sY hf hs rfl rfl rfl (Y_move rfl rfl) ?_; clear hf; intro a hf
    refine bsplit (!r115) (fun hb117 => ?_) (fun hb117 => ?_)
    ·have hj113 := bif_t hj113 hb117
     refine sNo hf rfl rfl rfl (congrArg (fun b => some (Value.bool b)) hb117) rfl rfl rfl ?_; clear hf; intro a hf
     refine sNo hf rfl rfl rfl (congrArg (fun b => some (Value.bool b)) hb117) rfl rfl rfl ?_; clear hf; intro a hf
     refine sNo hf rfl rfl rfl (congrArg (fun b => some (Value.bool b)) hb117) rfl rfl rfl ?_; clear hf; intro a hf
     refine sY hf hs rfl rfl rfl (Y_pickT rfl (congrArg (fun b => some (Value.bool b)) hb117) rfl) ?_; clear hf; intro a hf
     refine sY hf hs rfl rfl rfl (Y_move rfl rfl) ?_; clear hf; intro a hf
     refine sNo hf rfl rfl rfl rfl rfl rfl rfl ?_; clear hf; intro a hf
     refine sNo hf rfl rfl rfl rfl rfl rfl rfl ?_; clear hf; intro a hf
     refine sNo hf rfl rfl rfl rfl rfl rfl rfl ?_; clear hf; intro a hf
     refine sNo hf rfl rfl rfl rfl rfl rfl rfl ?_; clear hf; intro a hf
     refine sY hf hs rfl rfl rfl (Y_pickT rfl rfl rfl) ?_; clear hf; intro a hf
     refine sY hf hs rfl rfl rfl (Y_move rfl rfl) ?_; clear hf; intro a hf
     refine sNo hf rfl rfl rfl rfl rfl rfl rfl ?_; clear hf; intro a hf
     refine sNo hf rfl rfl rfl rfl rfl rfl rfl ?_; clear hf; intro a hf
     refine sNo hf rfl rfl rfl rfl rfl rfl rfl ?_; clear hf; intro a hf
     refine sY hf hs rfl rfl rfl (Y_pickT rfl rfl rfl) ?_; clear hf; intro a hf
     refine sY hf hs rfl rfl rfl (Y_move rfl rfl) ?_; clear hf; intro a hf
     refine sNo hf rfl rfl rfl rfl rfl rfl rfl ?_; clear hf; intro a hf
     refine sNo hf rfl rfl rfl rfl rfl rfl rfl ?_; clear hf; intro a hf
     refine sNo hf rfl rfl rfl rfl rfl rfl rfl ?_; clear hf; intro a hf
     refine sNo hf rfl rfl rfl rfl rfl rfl rfl ?_; clear hf; intro a hf
     refine sY hf hs rfl rfl rfl (Y_pickT rfl rfl rfl) ?_; clear hf; intro a hf
     refine sY hf hs rfl rfl rfl (Y_move rfl rfl) ?_; clear hf; intro a hf
     refine sNo hf rfl rfl rfl rfl rfl rfl rfl ?_; clear hf; intro a hf
     refine sNo hf rfl rfl rfl rfl rfl rfl rfl ?_; clear hf; intro a hf
     refine sNo hf rfl rfl rfl rfl rfl rfl rfl ?_; clear hf; intro a hf
     refine sY hf hs rfl rfl rfl (Y_pickT rfl rfl rfl) ?_; clear hf; intro a hf
     refine sY hf hs rfl rfl rfl (Y_move rfl rfl) ?_; clear hf; intro a hf
     refine sNo hf rfl rfl rfl rfl rfl rfl rfl ?_; clear hf; intro a hf
     refine sNo hf rfl rfl rfl rfl rfl rfl rfl ?_; clear hf; intro a hf
     refine sNo hf rfl rfl rfl rfl rfl rfl rfl ?_; clear hf; intro a hf
     refine sNo hf rfl rfl rfl rfl rfl rfl rfl ?_; clear hf; intro a hf
     refine sY hf hs rfl rfl rfl (Y_pickT rfl rfl rfl) ?_; clear hf; intro a hf
     refine wpO_nil ?_
     refine wpL_nil (then_normal ?_)
     exact ⟨true, Option.some.inj hj113, (FrD.pick (FrD.pick (FrD.pick (FrD.pick (FrD.pick (FrD.pick (FrD.pick (FrD.pick (FrD.pick (FrD.pick (FrD.pick (FrD.pick hf.none hf rfl) hf rfl) hf rfl) hf rfl) hf rfl) hf rfl) hf rfl) hf rfl) hf rfl) hf rfl) hf rfl) hf rfl), hs.sel [1, 0, 3, 2, 7, 6, 9, 8, 14, 12, 13, 16, 15] (by decide)⟩
    ·have hj113 := bif_f hj113 hb117
     refine sYg hf hs rfl rfl rfl (congrArg (fun b => some (Value.bool b)) hb117) rfl rfl rfl (Y_move rfl rfl) ?_; clear hf; intro a hf
     refine sYg hf hs rfl rfl rfl (congrArg (fun b => some (Value.bool b)) hb117) rfl rfl rfl (Y_move rfl rfl) ?_; clear hf; intro a hf
     refine sYg hf hs rfl rfl rfl (congrArg (fun b => some (Value.bool b)) hb117) rfl rfl rfl (Y_neq rfl rfl rfl) ?_; clear hf; intro a hf
     refine sY hf hs rfl rfl rfl (Y_pickF rfl (congrArg (fun b => some (Value.bool b)) hb117) rfl) ?_; clear hf; intro a hf
     refine sY hf hs rfl rfl rfl (Y_move rfl rfl) ?_; clear hf; intro a hf
     refine bsplit (r32.2 != r39.2) (fun hb118 => ?_) (fun hb118 => ?_)
     ·have hj113 := bif_t hj113 hb118
      refine sNo hf rfl rfl rfl (congrArg (fun b => some (Value.bool b)) hb118) rfl rfl rfl ?_; clear hf; intro a hf
      refine sNo hf rfl rfl rfl (congrArg (fun b => some (Value.bool b)) hb118) rfl rfl rfl ?_; clear hf; intro a hf
      refine sNo hf rfl rfl rfl (congrArg (fun b => some (Value.bool b)) hb118) rfl rfl rfl ?_; clear hf; intro a hf
      refine sNo hf rfl rfl rfl (congrArg (fun b => some (Value.bool b)) hb118) rfl rfl rfl ?_; clear hf; intro a hf
      refine sY hf hs rfl rfl rfl (Y_pickT rfl (congrArg (fun b => some (Value.bool b)) hb118) rfl) ?_; clear hf; intro a hf
      refine sY hf hs rfl rfl rfl (Y_move rfl rfl) ?_; clear hf; intro a hf
      refine sNo hf rfl rfl rfl rfl rfl rfl rfl ?_; clear hf; intro a hf
      refine sNo hf rfl rfl rfl rfl rfl rfl rfl ?_; clear hf; intro a hf
      refine sNo hf rfl rfl rfl rfl rfl rfl rfl ?_; clear hf; intro a hf
      refine sY hf hs rfl rfl rfl (Y_pickT rfl rfl rfl) ?_; clear hf; intro a hf
      refine sY hf hs rfl rfl rfl (Y_move rfl rfl) ?_; clear hf; intro a hf
      refine sNo hf rfl rfl rfl rfl rfl rfl rfl ?_; clear hf; intro a hf
      refine sNo hf rfl rfl rfl rfl rfl rfl rfl ?_; clear hf; intro a hf
      refine sNo hf rfl rfl rfl rfl rfl rfl rfl ?_; clear hf; intro a hf
      refine sNo hf rfl rfl rfl rfl rfl rfl rfl ?_; clear hf; intro a hf
      refine sY hf hs rfl rfl rfl (Y_pickT rfl rfl rfl) ?_; clear hf; intro a hf
      refine sY hf hs rfl rfl rfl (Y_move rfl rfl) ?_; clear hf; intro a hf
      refine sNo hf rfl rfl rfl rfl rfl rfl rfl ?_; clear hf; intro a hf
      refine sNo hf rfl rfl rfl rfl rfl rfl rfl ?_; clear hf; intro a hf
      refine sNo hf rfl rfl rfl rfl rfl rfl rfl ?_; clear hf; intro a hf
      refine sY hf hs rfl rfl rfl (Y_pickT rfl rfl rfl) ?_; clear hf; intro a hf
      refine sY hf hs rfl rfl rfl (Y_move rfl rfl) ?_; clear hf; intro a hf
      refine sNo hf rfl rfl rfl rfl rfl rfl rfl ?_; clear hf; intro a hf
      refine sNo hf rfl rfl rfl rfl rfl rfl rfl ?_; clear hf; intro a hf
      refine sNo hf rfl rfl rfl rfl rfl rfl rfl ?_; clear hf; intro a hf
      refine sNo hf rfl rfl rfl rfl rfl rfl rfl ?_; clear hf; intro a hf
      refine sY hf hs rfl rfl rfl (Y_pickT rfl rfl rfl) ?_; clear hf; intro a hf
      refine wpO_nil ?_
      refine wpL_nil (then_normal ?_)
      exact ⟨true, Option.some.inj hj113, (FrD.pick (FrD.pick (FrD.pick (FrD.pick (FrD.pick (FrD.pick (FrD.pick (FrD.pick (FrD.pick (FrD.pick (FrD.pick (FrD.pick hf.none hf rfl) hf rfl) hf rfl) hf rfl) hf rfl) hf rfl) hf rfl) hf rfl) hf rfl) hf rfl) hf rfl) hf rfl), hs.sel [1, 0, 3, 2, 7, 6, 9, 8, 14, 12, 13, 16, 15] (by decide)⟩
     ·have hj113 := bif_f hj113 hb118
      refine sYg hf hs rfl rfl rfl (congrArg (fun b => some (Value.bool b)) hb118) rfl rfl rfl (Y_load_blkS rfl rfl (i := 9) rfl ag59 ti59 rfl) ?_; clear hf; intro a hf
      refine sYg hf hs rfl rfl rfl (congrArg (fun b => some (Value.bool b)) hb118) rfl rfl rfl (Y_load_blkS rfl rfl (i := 11) rfl ag59 ti59 rfl) ?_; clear hf; intro a hf
      obtain ⟨r119, hc120, hj113⟩ := bind_some hj113
      refine sCallg hf rfl rfl rfl (congrArg (fun b => some (Value.bool b)) hb118) rfl rfl rfl rfl (cap := []) rfl rfl en50 (laws_likeGraphs9_ok F (GEventGraph.mk r32.1.Events r32.1.Places) A34 n35 c36 hn37 (GEventGraph.mk r39.1.Events r39.1.Places) A41 n42 c43 hn44 _ _ hc120 (hs.rd (i := 8) rfl) (hs.rd (i := 10) rfl)) ?_; clear hf
      rintro _ w ⟨rfl, hs1⟩ a hf
      have hs : St [] W w [.row A6 n7 c8 127 4 ((recs GPlace.cells) r4.Places), .blk b10 59 [.int .i64 r4.Events, .slice A6 n7 c8], .row A13 n14 c15 127 4 ((recs GPlace.cells) r11.1.Places), .blk b17 59 [.int .i64 r11.1.Events, .slice A13 n14 c15], .row A20 n21 c22 127 4 ((recs GPlace.cells) r18.1.Places), .blk b24 59 [.int .i64 r18.1.Events, .slice A20 n21 c22], .row A27 n28 c29 127 4 ((recs GPlace.cells) r25.1.Places), .blk b31 59 [.int .i64 r25.1.Events, .slice A27 n28 c29], .row A34 n35 c36 127 4 ((recs GPlace.cells) r32.1.Places), .blk b38 59 [.int .i64 r32.1.Events, .slice A34 n35 c36], .row A41 n42 c43 127 4 ((recs GPlace.cells) r39.1.Places), .blk b45 59 [.int .i64 r39.1.Events, .slice A41 n42 c43], .row A48 n49 c50 127 4 ((recs GPlace.cells) r46.1.Places), .row A52 n53 c54 2 1 (ints r46.2), .blk b56 59 [.int .i64 r46.1.Events, .slice A48 n49 c50], .row A59 n60 c61 127 4 ((recs GPlace.cells) r57.1.Places), .blk b63 59 [.int .i64 r57.1.Events, .slice A59 n60 c61], .row A66 n67 c68 127 4 ((recs GPlace.cells) r64.1.Places), .blk b70 59 [.int .i64 r64.1.Events, .slice A66 n67 c68], .row A73 n74 c75 127 4 ((recs GPlace.cells) r71.1.Places), .row A77 n78 c79 2 1 (ints r71.2), .blk b81 59 [.int .i64 r71.1.Events, .slice A73 n74 c75], .row A84 n85 c86 127 4 ((recs GPlace.cells) r82.1.Places), .blk b88 59 [.int .i64 r82.1.Events, .slice A84 n85 c86], .row A91 n92 c93 127 4 ((recs GPlace.cells) r89.1.Places), .blk b95 59 [.int .i64 r89.1.Events, .slice A91 n92 c93]] := hs.ext hs1.below
      clear hs1
      refine sYg hf hs rfl rfl rfl (congrArg (fun b => some (Value.bool b)) hb118) rfl rfl rfl (Y_not rfl rfl) ?_; clear hf; intro a hf
      refine sY hf hs rfl rfl rfl (Y_pickF rfl (congrArg (fun b => some (Value.bool b)) hb118) rfl) ?_; clear hf; intro a hf
      refine sY hf hs rfl rfl rfl (Y_move rfl rfl) ?_; clear hf; intro a hf
      refine bsplit (!r119) (fun hb121 => ?_) (fun hb121 => ?_)
      ·have hj113 := bif_t hj113 hb121
       refine sNo hf rfl rfl rfl (congrArg (fun b => some (Value.bool b)) hb121) rfl rfl rfl ?_; clear hf; intro a hf
       refine sNo hf rfl rfl rfl (congrArg (fun b => some (Value.bool b)) hb121) rfl rfl rfl ?_; clear hf; intro a hf
       refine sNo hf rfl rfl rfl (congrArg (fun b => some (Value.bool b)) hb121) rfl rfl rfl ?_; clear hf; intro a hf
       refine sY hf hs rfl rfl rfl (Y_pickT rfl (congrArg (fun b => some (Value.bool b)) hb121) rfl) ?_; clear hf; intro a hf
       refine sY hf hs rfl rfl rfl (Y_move rfl rfl) ?_; clear hf; intro a hf
       refine sNo hf rfl rfl rfl rfl rfl rfl rfl ?_; clear hf; intro a hf
       refine sNo hf rfl rfl rfl rfl rfl rfl rfl ?_; clear hf; intro a hf
       refine sNo hf rfl rfl rfl rfl rfl rfl rfl ?_; clear hf; intro a hf
       refine sNo hf rfl rfl rfl rfl rfl rfl rfl ?_; clear hf; intro a hf
       refine sY hf hs rfl rfl rfl (Y_pickT rfl rfl rfl) ?_; clear hf; intro a hf
       refine sY hf hs rfl rfl rfl (Y_move rfl rfl) ?_; clear hf; intro a hf
       refine sNo hf rfl rfl rfl rfl rfl rfl rfl ?_; clear hf; intro a hf
       refine sNo hf rfl rfl rfl rfl rfl rfl rfl ?_; clear hf; intro a hf
       refine sNo hf rfl rfl rfl rfl rfl rfl rfl ?_; clear hf; intro a hf
       refine sY hf hs rfl rfl rfl (Y_pickT rfl rfl rfl) ?_; clear hf; intro a hf
       refine sY hf hs rfl rfl rfl (Y_move rfl rfl) ?_; clear hf; intro a hf
       refine sNo hf rfl rfl rfl rfl rfl rfl rfl ?_; clear hf; intro a hf
       refine sNo hf rfl rfl rfl rfl rfl rfl rfl ?_; clear hf; intro a hf
       refine sNo hf rfl rfl rfl rfl rfl rfl rfl ?_; clear hf; intro a hf
       refine sNo hf rfl rfl rfl rfl rfl rfl rfl ?_; clear hf; intro a hf
       refine sY hf hs rfl rfl rfl (Y_pickT rfl rfl rfl) ?_; clear hf; intro a hf
       refine wpO_nil ?_
       refine wpL_nil (then_normal ?_)
       exact ⟨true, Option.some.inj hj113, (FrD.pick (FrD.pick (FrD.pick (FrD.pick (FrD.pick (FrD.pick (FrD.pick (FrD.pick (FrD.pick (FrD.pick (FrD.pick (FrD.pick hf.none hf rfl) hf rfl) hf rfl) hf rfl) hf rfl) hf rfl) hf rfl) hf rfl) hf rfl) hf rfl) hf rfl) hf rfl), hs.sel [1, 0, 3, 2, 7, 6, 9, 8, 14, 12, 13, 16, 15] (by decide)⟩
      ·have hj113 := bif_f hj113 hb121
       refine sYg hf hs rfl rfl rfl (congrArg (fun b => some (Value.bool b)) hb121) rfl rfl rfl (Y_move rfl rfl) ?_; clear hf; intro a hf
       refine sYg hf hs rfl rfl rfl (congrArg (fun b => some (Value.bool b)) hb121) rfl rfl rfl (Y_move rfl rfl) ?_; clear hf; intro a hf
       refine sYg hf hs rfl rfl rfl (congrArg (fun b => some (Value.bool b)) hb121) rfl rfl rfl (Y_neq rfl rfl rfl) ?_; clear hf; intro a hf
       refine sY hf hs rfl rfl rfl (Y_pickF rfl (congrArg (fun b => some (Value.bool b)) hb121) rfl) ?_; clear hf; intro a hf
       refine sY hf hs rfl rfl rfl (Y_move rfl rfl) ?_; clear hf; intro a hf
       refine bsplit (r57.2 != r64.2) (fun hb122 => ?_) (fun hb122 => ?_)
       ·have hj113 := bif_t hj113 hb122
        refine sNo hf rfl rfl rfl (congrArg (fun b => some (Value.bool b)) hb122) rfl rfl rfl ?_; clear hf; intro a hf
        refine sNo hf rfl rfl rfl (congrArg (fun b => some (Value.bool b)) hb122) rfl rfl rfl ?_; clear hf; intro a hf
        refine sNo hf rfl rfl rfl (congrArg (fun b => some (Value.bool b)) hb122) rfl rfl rfl ?_; clear hf; intro a hf
        refine sNo hf rfl rfl rfl (congrArg (fun b => some (Value.bool b)) hb122) rfl rfl rfl ?_; clear hf; intro a hf
        refine sY hf hs rfl rfl rfl (Y_pickT rfl (congrArg (fun b => some (Value.bool b)) hb122) rfl) ?_; clear hf; intro a hf
        refine sY hf hs rfl rfl rfl (Y_move rfl rfl) ?_; clear hf; intro a hf
        refine sNo hf rfl rfl rfl rfl rfl rfl rfl ?_; clear hf; intro a hf
        refine sNo hf rfl rfl rfl rfl rfl rfl rfl ?_; clear hf; intro a hf
        refine sNo hf rfl rfl rfl rfl rfl rfl rfl ?_; clear hf; intro a hf
        refine sY hf hs rfl rfl rfl (Y_pickT rfl rfl rfl) ?_; clear hf; intro a hf
        refine sY hf hs rfl rfl rfl (Y_move rfl rfl) ?_; clear hf; intro a hf
        refine sNo hf rfl rfl rfl rfl rfl rfl rfl ?_; clear hf; intro a hf
        refine sNo hf rfl rfl rfl rfl rfl rfl rfl ?_; clear hf; intro a hf
        refine sNo hf rfl rfl rfl rfl rfl rfl rfl ?_; clear hf; intro a hf
        refine sNo hf rfl rfl rfl rfl rfl rfl rfl ?_; clear hf; intro a hf
        refine sY hf hs rfl rfl rfl (Y_pickT rfl rfl rfl) ?_; clear hf; intro a hf
        refine wpO_nil ?_
        refine wpL_nil (then_normal ?_)
        exact ⟨true, Option.some.inj hj113, (FrD.pick (FrD.pick (FrD.pick (FrD.pick (FrD.pick (FrD.pick (FrD.pick (FrD.pick (FrD.pick (FrD.pick (FrD.pick (FrD.pick hf.none hf rfl) hf rfl) hf rfl) hf rfl) hf rfl) hf rfl) hf rfl) hf rfl) hf rfl) hf rfl) hf rfl) hf rfl), hs.sel [1, 0, 3, 2, 7, 6, 9, 8, 14, 12, 13, 16, 15] (by decide)⟩
       ·have hj113 := bif_f hj113 hb122
        refine sYg hf hs rfl rfl rfl (congrArg (fun b => some (Value.bool b)) hb122) rfl rfl rfl (Y_load_blkS rfl rfl (i := 16) rfl ag59 ti59 rfl) ?_; clear hf; intro a hf
        refine sYg hf hs rfl rfl rfl (congrArg (fun b => some (Value.bool b)) hb122) rfl rfl rfl (Y_load_blkS rfl rfl (i := 18) rfl ag59 ti59 rfl) ?_; clear hf; intro a hf
        obtain ⟨r123, hc124, hj113⟩ := bind_some hj113
        refine sCallg hf rfl rfl rfl (congrArg (fun b => some (Value.bool b)) hb122) rfl rfl rfl rfl (cap := []) rfl rfl en50 (laws_likeGraphs9_ok F (GEventGraph.mk r57.1.Events r57.1.Places) A59 n60 c61 hn62 (GEventGraph.mk r64.1.Events r64.1.Places) A66 n67 c68 hn69 _ _ hc124 (hs.rd (i := 15) rfl) (hs.rd (i := 17) rfl)) ?_; clear hf
        rintro _ w ⟨rfl, hs1⟩ a hf
        have hs : St [] W w [.row A6 n7 c8 127 4 ((recs GPlace.cells) r4.Places), .blk b10 59 [.int .i64 r4.Events, .slice A6 n7 c8], .row A13 n14 c15 127 4 ((recs GPlace.cells) r11.1.Places), .blk b17 59 [.int .i64 r11.1.Events, .slice A13 n14 c15], .row A20 n21 c22 127 4 ((recs GPlace.cells) r18.1.Places), .blk b24 59 [.int .i64 r18.1.Events, .slice A20 n21 c22], .row A27 n28 c29 127 4 ((recs GPlace.cells) r25.1.Places), .blk b31 59 [.int .i64 r25.1.Events, .slice A27 n28 c29], .row A34 n35 c36 127 4 ((recs GPlace.cells) r32.1.Places), .blk b38 59 [.int .i64 r32.1.Events, .slice A34 n35 c36], .row A41 n42 c43 127 4 ((recs GPlace.cells) r39.1.Places), .blk b45 59 [.int .i64 r39.1.Events, .slice A41 n42 c43], .row A48 n49 c50 127 4 ((recs GPlace.cells) r46.1.Places), .row A52 n53 c54 2 1 (ints r46.2), .blk b56 59 [.int .i64 r46.1.Events, .slice A48 n49 c50], .row A59 n60 c61 127 4 ((recs GPlace.cells) r57.1.Places), .blk b63 59 [.int .i64 r57.1.Events, .slice A59 n60 c61], .row A66 n67 c68 127 4 ((recs GPlace.cells) r64.1.Places), .blk b70 59 [.int .i64 r64.1.Events, .slice A66 n67 c68], .row A73 n74 c75 127 4 ((recs GPlace.cells) r71.1.Places), .row A77 n78 c79 2 1 (ints r71.2), .blk b81 59 [.int .i64 r71.1.Events, .slice A73 n74 c75], .row A84 n85 c86 127 4 ((recs GPlace.cells) r82.1.Places), .blk b88 59 [.int .i64 r82.1.Events, .slice A84 n85 c86], .row A91 n92 c93 127 4 ((recs GPlace.cells) r89.1.Places), .blk b95 59 [.int .i64 r89.1.Events, .slice A91 n92 c93]] := hs.ext hs1.below
        clear hs1
        refine sYg hf hs rfl rfl rfl (congrArg (fun b => some (Value.bool b)) hb122) rfl rfl rfl (Y_not rfl rfl) ?_; clear hf; intro a hf
        refine sY hf hs rfl rfl rfl (Y_pickF rfl (congrArg (fun b => some (Value.bool b)) hb122) rfl) ?_; clear hf; intro a hf
        refine sY hf hs rfl rfl rfl (Y_move rfl rfl) ?_; clear hf; intro a hf
        refine bsplit (!r123) (fun hb125 => ?_) (fun hb125 => ?_)
        ·have hj113 := bif_t hj113 hb125
         refine sNo hf rfl rfl rfl (congrArg (fun b => some (Value.bool b)) hb125) rfl rfl rfl ?_; clear hf; intro a hf
         refine sNo hf rfl rfl rfl (congrArg (fun b => some (Value.bool b)) hb125) rfl rfl rfl ?_; clear hf; intro a hf
         refine sNo hf rfl rfl rfl (congrArg (fun b => some (Value.bool b)) hb125) rfl rfl rfl ?_; clear hf; intro a hf
         refine sY hf hs rfl rfl rfl (Y_pickT rfl (congrArg (fun b => some (Value.bool b)) hb125) rfl) ?_; clear hf; intro a hf
         refine sY hf hs rfl rfl rfl (Y_move rfl rfl) ?_; clear hf; intro a hf
         refine sNo hf rfl rfl rfl rfl rfl rfl rfl ?_; clear hf; intro a hf
         refine sNo hf rfl rfl rfl rfl rfl rfl rfl ?_; clear hf; intro a hf
         refine sNo hf rfl rfl rfl rfl rfl rfl rfl ?_; clear hf; intro a hf
         refine sNo hf rfl rfl rfl rfl rfl rfl rfl ?_; clear hf; intro a hf
         refine sY hf hs rfl rfl rfl (Y_pickT rfl rfl rfl) ?_; clear hf; intro a hf
         refine wpO_nil ?_
         refine wpL_nil (then_normal ?_)
         exact ⟨true, Option.some.inj hj113, (FrD.pick (FrD.pick (FrD.pick (FrD.pick (FrD.pick (FrD.pick (FrD.pick (FrD.pick (FrD.pick (FrD.pick (FrD.pick (FrD.pick hf.none hf rfl) hf rfl) hf rfl) hf rfl) hf rfl) hf rfl) hf rfl) hf rfl) hf rfl) hf rfl) hf rfl) hf rfl), hs.sel [1, 0, 3, 2, 7, 6, 9, 8, 14, 12, 13, 16, 15] (by decide)⟩
        ·have hj113 := bif_f hj113 hb125
         refine sYg hf hs rfl rfl rfl (congrArg (fun b => some (Value.bool b)) hb125) rfl rfl rfl (Y_move rfl rfl) ?_; clear hf; intro a hf
         refine sYg hf hs rfl rfl rfl (congrArg (fun b => some (Value.bool b)) hb125) rfl rfl rfl (Y_move rfl rfl) ?_; clear hf; intro a hf
         refine sYg hf hs rfl rfl rfl (congrArg (fun b => some (Value.bool b)) hb125) rfl rfl rfl (Y_neq rfl rfl rfl) ?_; clear hf; intro a hf
         refine sY hf hs rfl rfl rfl (Y_pickF rfl (congrArg (fun b => some (Value.bool b)) hb125) rfl) ?_; clear hf; intro a hf
         refine sY hf hs rfl rfl rfl (Y_move rfl rfl) ?_; clear hf; intro a hf
         refine bsplit (r82.2 != r89.2) (fun hb126 => ?_) (fun hb126 => ?_)
         ·have hj113 := bif_t hj113 hb126
          refine sNo hf rfl rfl rfl (congrArg (fun b => some (Value.bool b)) hb126) rfl rfl rfl ?_; clear hf; intro a hf
          refine sNo hf rfl rfl rfl (congrArg (fun b => some (Value.bool b)) hb126) rfl rfl rfl ?_; clear hf; intro a hf
          refine sNo hf rfl rfl rfl (congrArg (fun b => some (Value.bool b)) hb126) rfl rfl rfl ?_; clear hf; intro a hf
          refine sNo hf rfl rfl rfl (congrArg (fun b => some (Value.bool b)) hb126) rfl rfl rfl ?_; clear hf; intro a hf
          refine sY hf hs rfl rfl rfl (Y_pickT rfl (congrArg (fun b => some (Value.bool b)) hb126) rfl) ?_; clear hf; intro a hf
          refine wpO_nil ?_
          refine wpL_nil (then_normal ?_)
          exact ⟨true, Option.some.inj hj113, (FrD.pick (FrD.pick (FrD.pick (FrD.pick (FrD.pick (FrD.pick (FrD.pick (FrD.pick (FrD.pick (FrD.pick (FrD.pick (FrD.pick hf.none hf rfl) hf rfl) hf rfl) hf rfl) hf rfl) hf rfl) hf rfl) hf rfl) hf rfl) hf rfl) hf rfl) hf rfl), hs.sel [1, 0, 3, 2, 7, 6, 9, 8, 14, 12, 13, 16, 15] (by decide)⟩
         ·have hj113 := bif_f hj113 hb126
          refine sYg hf hs rfl rfl rfl (congrArg (fun b => some (Value.bool b)) hb126) rfl rfl rfl (Y_load_blkS rfl rfl (i := 23) rfl ag59 ti59 rfl) ?_; clear hf; intro a hf
          refine sYg hf hs rfl rfl rfl (congrArg (fun b => some (Value.bool b)) hb126) rfl rfl rfl (Y_load_blkS rfl rfl (i := 25) rfl ag59 ti59 rfl) ?_; clear hf; intro a hf
          obtain ⟨r127, hc128, hj113⟩ := bind_some hj113
          refine sCallg hf rfl rfl rfl (congrArg (fun b => some (Value.bool b)) hb126) rfl rfl rfl rfl (cap := []) rfl rfl en50 (laws_likeGraphs9_ok F (GEventGraph.mk r82.1.Events r82.1.Places) A84 n85 c86 hn87 (GEventGraph.mk r89.1.Events r89.1.Places) A91 n92 c93 hn94 _ _ hc128 (hs.rd (i := 22) rfl) (hs.rd (i := 24) rfl)) ?_; clear hf
          rintro _ w ⟨rfl, hs1⟩ a hf
          have hs : St [] W w [.row A6 n7 c8 127 4 ((recs GPlace.cells) r4.Places), .blk b10 59 [.int .i64 r4.Events, .slice A6 n7 c8], .row A13 n14 c15 127 4 ((recs GPlace.cells) r11.1.Places), .blk b17 59 [.int .i64 r11.1.Events, .slice A13 n14 c15], .row A20 n21 c22 127 4 ((recs GPlace.cells) r18.1.Places), .blk b24 59 [.int .i64 r18.1.Events, .slice A20 n21 c22], .row A27 n28 c29 127 4 ((recs GPlace.cells) r25.1.Places), .blk b31 59 [.int .i64 r25.1.Events, .slice A27 n28 c29], .row A34 n35 c36 127 4 ((recs GPlace.cells) r32.1.Places), .blk b38 59 [.int .i64 r32.1.Events, .slice A34 n35 c36], .row A41 n42 c43 127 4 ((recs GPlace.cells) r39.1.Places), .blk b45 59 [.int .i64 r39.1.Events, .slice A41 n42 c43], .row A48 n49 c50 127 4 ((recs GPlace.cells) r46.1.Places), .row A52 n53 c54 2 1 (ints r46.2), .blk b56 59 [.int .i64 r46.1.Events, .slice A48 n49 c50], .row A59 n60 c61 127 4 ((recs GPlace.cells) r57.1.Places), .blk b63 59 [.int .i64 r57.1.Events, .slice A59 n60 c61], .row A66 n67 c68 127 4 ((recs GPlace.cells) r64.1.Places), .blk b70 59 [.int .i64 r64.1.Events, .slice A66 n67 c68], .row A73 n74 c75 127 4 ((recs GPlace.cells) r71.1.Places), .row A77 n78 c79 2 1 (ints r71.2), .blk b81 59 [.int .i64 r71.1.Events, .slice A73 n74 c75], .row A84 n85 c86 127 4 ((recs GPlace.cells) r82.1.Places), .blk b88 59 [.int .i64 r82.1.Events, .slice A84 n85 c86], .row A91 n92 c93 127 4 ((recs GPlace.cells) r89.1.Places), .blk b95 59 [.int .i64 r89.1.Events, .slice A91 n92 c93]] := hs.ext hs1.below
          clear hs1
          refine sYg hf hs rfl rfl rfl (congrArg (fun b => some (Value.bool b)) hb126) rfl rfl rfl (Y_not rfl rfl) ?_; clear hf; intro a hf
          refine sY hf hs rfl rfl rfl (Y_pickF rfl (congrArg (fun b => some (Value.bool b)) hb126) rfl) ?_; clear hf; intro a hf
          refine wpO_nil ?_
          refine wpL_nil (then_normal ?_)
          exact ⟨(!r127), Option.some.inj hj113, (FrD.pick (FrD.pick (FrD.pick (FrD.pick (FrD.pick (FrD.pick (FrD.pick (FrD.pick (FrD.pick (FrD.pick (FrD.pick (FrD.pick hf.none hf rfl) hf rfl) hf rfl) hf rfl) hf rfl) hf rfl) hf rfl) hf rfl) hf rfl) hf rfl) hf rfl) hf rfl), hs.sel [1, 0, 3, 2, 7, 6, 9, 8, 14, 12, 13, 16, 15] (by decide)⟩
  ·rintro a w ⟨b111, hr_, hf, hs⟩
   subst hr_
   try dsimp only at hm
   refine wpL_cond hf rfl (fun hb129 => ?_) (fun hb129 => ?_)
   ·have hm := bif_t hm hb129
    refine wpL_seq <| wpL_region ?_
    refine sY hf hs rfl rfl rfl (Y_assign rfl rfl) ?_; clear hf; intro a hf
    refine wpO_nil ?_
    obtain rfl := Option.some.inj hm
    refine wpL_ret (ret_tmp rfl hf rfl ?_)
    exact ⟨_, rfl, rfl, hs.sel [] (by decide)⟩
   ·have hm := bif_f hm hb129
    refine wpL_skip <| wpL_seq <| wpL_seq <| wpL_region ?_
    refine sY hf hs rfl rfl rfl (Y_move rfl rfl) ?_; clear hf; intro a hf
    refine sY hf hs rfl rfl rfl (Y_eql rfl rfl rfl) ?_; clear hf; intro a hf
    refine wpO_nil ?_
    obtain ⟨r191, hj192, hm⟩ := bind_some hm
    refine wpL_cut (fun a w => Sum.inr () = r191 ∧ Fr a 243 [(3, .pointer (some ⟨b10, 0, none⟩)), (4, .pointer (some ⟨b17, 0, none⟩)), (5, .int .i64 r11.2), (8, .pointer (some ⟨b31, 0, none⟩)), (9, .int .i64 r25.2), (10, .pointer (some ⟨b38, 0, none⟩)), (11, .int .i64 r32.2)] ∧ St [] W w [.blk b10 59 [.int .i64 r4.Events, .slice A6 n7 c8], .row A6 n7 c8 127 4 ((recs GPlace.cells) r4.Places), .blk b17 59 [.int .i64 r11.1.Events, .slice A13 n14 c15], .row A13 n14 c15 127 4 ((recs GPlace.cells) r11.1.Places), .blk b31 59 [.int .i64 r25.1.Events, .slice A27 n28 c29], .row A27 n28 c29 127 4 ((recs GPlace.cells) r25.1.Places), .blk b38 59 [.int .i64 r32.1.Events, .slice A34 n35 c36], .row A34 n35 c36 127 4 ((recs GPlace.cells) r32.1.Places)]) ?_ ?_
    ·refine wpL_cond hf rfl (fun hb193 => ?_) (fun hb193 => ?_)
     ·have hj192 := bif_t hj192 hb193
      refine wpL_seq <| wpL_region ?_
      refine sY hf hs rfl rfl rfl (Y_move rfl rfl) ?_; clear hf; intro a hf
      refine sY hf hs rfl rfl rfl (Y_lenH rfl rfl el23 hn55) ?_; clear hf; intro a hf
      obtain ⟨xs196, hk195, hj192⟩ := bind_some hj192
      refine sMakeL (enc := ints) hf hs rfl rfl rfl rfl rfl hk195 el23 ti2 rfl ints_made ?_; clear hf hs; intro a w A194 hs hf
      have hs : St [] W w [.blk b10 59 [.int .i64 r4.Events, .slice A6 n7 c8], .row A6 n7 c8 127 4 ((recs GPlace.cells) r4.Places), .blk b17 59 [.int .i64 r11.1.Events, .slice A13 n14 c15], .row A13 n14 c15 127 4 ((recs GPlace.cells) r11.1.Places), .blk b31 59 [.int .i64 r25.1.Events, .slice A27 n28 c29], .row A27 n28 c29 127 4 ((recs GPlace.cells) r25.1.Places), .blk b38 59 [.int .i64 r32.1.Events, .slice A34 n35 c36], .row A34 n35 c36 127 4 ((recs GPlace.cells) r32.1.Places), .blk b56 59 [.int .i64 r46.1.Events, .slice A48 n49 c50], .row A48 n49 c50 127 4 ((recs GPlace.cells) r46.1.Places), .row A52 n53 c54 2 1 (ints r46.2), .blk b63 59 [.int .i64 r57.1.Events, .slice A59 n60 c61], .row A59 n60 c61 127 4 ((recs GPlace.cells) r57.1.Places), .row A194 xs196.length xs196.length 2 1 (ints xs196)] := hs
      refine sY hf hs rfl rfl rfl (Y_assign rfl rfl) ?_; clear hf; intro a hf
      refine wpO_nil <| wpL_seq <| wpL_seq <| wpL_region ?_
      refine sY hf hs rfl rfl rfl (Y_assign rfl rfl) ?_; clear hf; intro a hf
      refine wpO_nil ?_
      obtain ⟨r226, hl227, hj192⟩ := bind_some hj192
      refine wpL_block (fun a w => ∃ xs224 : List Int, xs224 = r226 ∧ xs196.length = xs224.length ∧ Fr a 243 [(3, .pointer (some ⟨b10, 0, none⟩)), (4, .pointer (some ⟨b17, 0, none⟩)), (5, .int .i64 r11.2), (8, .pointer (some ⟨b31, 0, none⟩)), (9, .int .i64 r25.2), (10, .pointer (some ⟨b38, 0, none⟩)), (11, .int .i64 r32.2), (14, .pointer (some ⟨b56, 0, none⟩)), (16, .pointer (some ⟨b63, 0, none⟩)), (26, .slice A194 xs196.length xs196.length)] ∧ St [] W w [.blk b10 59 [.int .i64 r4.Events, .slice A6 n7 c8], .row A6 n7 c8 127 4 ((recs GPlace.cells) r4.Places), .blk b17 59 [.int .i64 r11.1.Events, .slice A13 n14 c15], .row A13 n14 c15 127 4 ((recs GPlace.cells) r11.1.Places), .blk b31 59 [.int .i64 r25.1.Events, .slice A27 n28 c29], .row A27 n28 c29 127 4 ((recs GPlace.cells) r25.1.Places), .blk b38 59 [.int .i64 r32.1.Events, .slice A34 n35 c36], .row A34 n35 c36 127 4 ((recs GPlace.cells) r32.1.Places), .blk b56 59 [.int .i64 r46.1.Events, .slice A48 n49 c50], .row A48 n49 c50 127 4 ((recs GPlace.cells) r46.1.Places), .blk b63 59 [.int .i64 r57.1.Events, .slice A59 n60 c61], .row A59 n60 c61 127 4 ((recs GPlace.cells) r57.1.Places), .row A194 xs196.length xs196.length 2 1 (ints xs224)]) ?_ ?_
      ·refine wpL_loop (fun n a w => ∃ xs214 : List Int, ∃ x216 : Int, laws_FnReversed_L2 F r46 n xs214 x216 = some r226 ∧ xs196.length = xs214.length ∧ Fr a 243 [(3, .pointer (some ⟨b10, 0, none⟩)), (4, .pointer (some ⟨b17, 0, none⟩)), (5, .int .i64 r11.2), (8, .pointer (some ⟨b31, 0, none⟩)), (9, .int .i64 r25.2), (10, .pointer (some ⟨b38, 0, none⟩)), (11, .int .i64 r32.2), (14, .pointer (some ⟨b56, 0, none⟩)), (15, .slice A52 n53 c54), (16, .pointer (some ⟨b63, 0, none⟩)), (26, .slice A194 xs196.length xs196.length), (27, .int .i64 x216)] ∧ St [] W w [.blk b10 59 [.int .i64 r4.Events, .slice A6 n7 c8], .row A6 n7 c8 127 4 ((recs GPlace.cells) r4.Places), .blk b17 59 [.int .i64 r11.1.Events, .slice A13 n14 c15], .row A13 n14 c15 127 4 ((recs GPlace.cells) r11.1.Places), .blk b31 59 [.int .i64 r25.1.Events, .slice A27 n28 c29], .row A27 n28 c29 127 4 ((recs GPlace.cells) r25.1.Places), .blk b38 59 [.int .i64 r32.1.Events, .slice A34 n35 c36], .row A34 n35 c36 127 4 ((recs GPlace.cells) r32.1.Places), .blk b56 59 [.int .i64 r46.1.Events, .slice A48 n49 c50], .row A48 n49 c50 127 4 ((recs GPlace.cells) r46.1.Places), .row A52 n53 c54 2 1 (ints r46.2), .blk b63 59 [.int .i64 r57.1.Events, .slice A59 n60 c61], .row A59 n60 c61 127 4 ((recs GPlace.cells) r57.1.Places), .row A194 xs196.length xs196.length 2 1 (ints xs214)]) F ?_ ?_ ?_
       ·exact ⟨xs196, 0, hl227, rfl, (FrD.pick (FrD.pick (FrD.pick (FrD.pick (FrD.pick (FrD.pick (FrD.pick (FrD.pick (FrD.pick (FrD.pick (FrD.pick (FrD.pick hf.none hf rfl) hf rfl) hf rfl) hf rfl) hf rfl) hf rfl) hf rfl) hf rfl) hf rfl) hf rfl) hf rfl) hf rfl), hs⟩
       ·rintro a w ⟨xs214, x216, h0_, -, -, -⟩; simp [laws_FnReversed_L2] at h0_
       ·rintro n229 a w ⟨xs214, x216, hm228, hn215, hf, hs⟩
        rw [laws_FnReversed_L2] at hm228
        refine wpL_seq <| wpL_seq <| wpL_region ?_
        refine sY hf hs rfl rfl rfl (Y_move rfl rfl) ?_; clear hf; intro a hf
        refine sY hf hs rfl rfl rfl (Y_move rfl rfl) ?_; clear hf; intro a hf
        refine sY hf hs rfl rfl rfl (Y_lenH rfl rfl el23 hn55) ?_; clear hf; intro a hf
        refine sY hf hs rfl rfl rfl (Y_lss rfl rfl rfl) ?_; clear hf; intro a hf
        refine wpO_nil ?_
        refine wpL_cond hf rfl (fun hb230 => ?_) (fun hb230 => ?_)
        ·have hm228 := bif_t hm228 hb230
         refine wpL_skip <| wpL_seq <| wpL_block0 <| wpL_region ?_
         refine sY hf hs rfl rfl rfl (Y_move rfl rfl) ?_; clear hf; intro a hf
         refine sY hf hs rfl rfl rfl (Y_move rfl rfl) ?_; clear hf; intro a hf
         refine sY hf hs rfl rfl rfl (Y_move rfl rfl) ?_; clear hf; intro a hf
         obtain ⟨q231, hi232, hm228⟩ := bind_some hm228
         obtain ⟨hi232a, hi232b, hi232q⟩ := idx_some hi232
         refine sY hf hs rfl rfl rfl (Y_index rfl rfl rfl el23 ti2 (Rd.isAt (hs.rd (i := 10) rfl) (at1 (ints_at hi232q))) hi232a (ltn hn55 hi232b)) ?_; clear hf; intro a hf
         refine sY hf hs rfl rfl rfl (Y_load_rd rfl rfl (fun w hs => hs.rd (i := 10) rfl) (at1 (ints_at hi232q)) ag2) ?_; clear hf; intro a hf
         refine sY hf hs rfl rfl rfl (Y_move rfl rfl) ?_; clear hf; intro a hf
         obtain ⟨q233, hi234, hm228⟩ := bind_some hm228
         obtain ⟨hi234a, hi234b, hi234q⟩ := idx_some hi234
         refine sY hf hs rfl rfl rfl (Y_index rfl rfl rfl el23 ti2 (Rd.isAt (hs.rd (i := 13) rfl) (at1 (ints_at hi234q))) hi234a (ltn hn215 hi234b)) ?_; clear hf; intro a hf
         obtain ⟨xs235, hu236, hm228⟩ := bind_some hm228
         refine sStoreL (i := 13) (us := [.int .i64 x216]) (enc := ints) hf hs rfl rfl rfl rfl rfl rfl hn215 hu236 ti2 rfl rfl rfl rfl rfl ints_len1 (ints_set x216) ?_; clear hs; intro w hs
         have hs : St [] W w [.blk b10 59 [.int .i64 r4.Events, .slice A6 n7 c8], .row A6 n7 c8 127 4 ((recs GPlace.cells) r4.Places), .blk b17 59 [.int .i64 r11.1.Events, .slice A13 n14 c15], .row A13 n14 c15 127 4 ((recs GPlace.cells) r11.1.Places), .blk b31 59 [.int .i64 r25.1.Events, .slice A27 n28 c29], .row A27 n28 c29 127 4 ((recs GPlace.cells) r25.1.Places), .blk b38 59 [.int .i64 r32.1.Events, .slice A34 n35 c36], .row A34 n35 c36 127 4 ((recs GPlace.cells) r32.1.Places), .blk b56 59 [.int .i64 r46.1.Events, .slice A48 n49 c50], .row A48 n49 c50 127 4 ((recs GPlace.cells) r46.1.Places), .row A52 n53 c54 2 1 (ints r46.2), .blk b63 59 [.int .i64 r57.1.Events, .slice A59 n60 c61], .row A59 n60 c61 127 4 ((recs GPlace.cells) r57.1.Places), .row A194 xs196.length xs196.length 2 1 (ints xs235)] := hs
         refine wpO_nil ?_
         refine wpL_nil (Qb_normal ?_)
         refine wpL_region ?_
         refine sY hf hs rfl rfl rfl (Y_move rfl rfl) ?_; clear hf; intro a hf
         refine sY hf hs rfl rfl rfl (Y_add rfl rfl rfl) ?_; clear hf; intro a hf
         refine sY hf hs rfl rfl rfl (Y_assign rfl rfl) ?_; clear hf; intro a hf
         refine wpO_nil ?_
         refine wpL_nil (Ql_normal ?_)
         exact ⟨xs235, (IntKind.i64.wrap (x216 + 1)), hm228, ((hn215).trans (upd_len hu236).symm), (FrD.pick (FrD.pick (FrD.pick (FrD.pick (FrD.pick (FrD.pick (FrD.pick (FrD.pick (FrD.pick (FrD.pick (FrD.pick (FrD.pick hf.none hf rfl) hf rfl) hf rfl) hf rfl) hf rfl) hf rfl) hf rfl) hf rfl) hf rfl) hf rfl) hf rfl) hf rfl), hs⟩
        ·have hm228 := bif_f hm228 hb230
         refine wpL_exit (Ql_exit (Qb_exit ?_))
         exact ⟨xs214, Option.some.inj hm228, hn215, (FrD.pick (FrD.pick (FrD.pick (FrD.pick (FrD.pick (FrD.pick (FrD.pick (FrD.pick (FrD.pick (FrD.pick hf.none hf rfl) hf rfl) hf rfl) hf rfl) hf rfl) hf rfl) hf rfl) hf rfl) hf rfl) hf rfl), hs.sel [0, 1, 2, 3, 4, 5, 6, 7, 8, 9, 11, 12, 13] (by decide)⟩
      ·rintro a w ⟨xs224, hr_, hn225, hf, hs⟩
       subst hr_
       try dsimp only at hj192
       refine wpL_seq <| wpL_region ?_
       refine sY hf hs rfl rfl rfl (Y_load_blkS rfl rfl (i := 10) rfl ag59 ti59 rfl) ?_; clear hf; intro a hf
       refine sY hf hs rfl rfl rfl (Y_move rfl rfl) ?_; clear hf; intro a hf
       obtain ⟨r237, hc238, hj192⟩ := bind_some hj192
       refine sCall hf rfl rfl rfl rfl (cap := []) rfl rfl en65 (impl_RelabelGraph_ok F (GEventGraph.mk r57.1.Events r57.1.Places) A59 n60 c61 hn62 xs224 A194 xs196.length xs196.length hn225 _ _ hc238 (hs.rd (i := 11) rfl) (hs.rd (i := 12) rfl) (hs.capR (i := 12) rfl)) ?_; clear hf
       rintro _ w ⟨A239, n240, c241, rfl, hn242, hs1⟩ a hf
       have hs : St [] W w [.blk b10 59 [.int .i64 r4.Events, .slice A6 n7 c8], .row A6 n7 c8 127 4 ((recs GPlace.cells) r4.Places), .blk b17 59 [.int .i64 r11.1.Events, .slice A13 n14 c15], .row A13 n14 c15 127 4 ((recs GPlace.cells) r11.1.Places), .blk b31 59 [.int .i64 r25.1.Events, .slice A27 n28 c29], .row A27 n28 c29 127 4 ((recs GPlace.cells) r25.1.Places), .blk b38 59 [.int .i64 r32.1.Events, .slice A34 n35 c36], .row A34 n35 c36 127 4 ((recs GPlace.cells) r32.1.Places), .blk b56 59 [.int .i64 r46.1.Events, .slice A48 n49 c50], .row A48 n49 c50 127 4 ((recs GPlace.cells) r46.1.Places), .blk b63 59 [.int .i64 r57.1.Events, .slice A59 n60 c61], .row A59 n60 c61 127 4 ((recs GPlace.cells) r57.1.Places), .row A194 xs196.length xs196.length 2 1 (ints xs224), .row A239 n240 c241 127 4 ((recs GPlace.cells) r237.1.Places)] := hs.join hs1
       clear hs1
       refine sY hf hs rfl rfl rfl (Y_move rfl rfl) ?_; clear hf; intro a hf
       refine sY hf hs rfl rfl rfl (Y_extract rfl rfl rfl) ?_; clear hf; intro a hf
       refine sY hf hs rfl rfl rfl (Y_extract rfl rfl rfl) ?_; clear hf; intro a hf
       refine sAlloc hf hs rfl rfl rfl rfl ti59 ?_; clear hf hs; intro a w b243 hs hf
       have hs : St [] W w [.blk b10 59 [.int .i64 r4.Events, .slice A6 n7 c8], .row A6 n7 c8 127 4 ((recs GPlace.cells) r4.Places), .blk b17 59 [.int .i64 r11.1.Events, .slice A13 n14 c15], .row A13 n14 c15 127 4 ((recs GPlace.cells) r11.1.Places), .blk b31 59 [.int .i64 r25.1.Events, .slice A27 n28 c29], .row A27 n28 c29 127 4 ((recs GPlace.cells) r25.1.Places), .blk b38 59 [.int .i64 r32.1.Events, .slice A34 n35 c36], .row A34 n35 c36 127 4 ((recs GPlace.cells) r32.1.Places), .blk b56 59 [.int .i64 r46.1.Events, .slice A48 n49 c50], .row A48 n49 c50 127 4 ((recs GPlace.cells) r46.1.Places), .blk b63 59 [.int .i64 r57.1.Events, .slice A59 n60 c61], .row A59 n60 c61 127 4 ((recs GPlace.cells) r57.1.Places), .row A194 xs196.length xs196.length 2 1 (ints xs224), .row A239 n240 c241 127 4 ((recs GPlace.cells) r237.1.Places), .blk b243 59 [.int .i64 0, .slice none 0 0]] := hs
       refine sStore (i := 14) (us := [.int .i64 r237.1.Events, .slice A239 n240 c241]) hf hs rfl rfl rfl rfl rfl rfl ti59 rfl rfl rfl (Nat.le_of_ble_eq_true rfl) rfl ?_; clear hs; intro w hs
       have hs : St [] W w [.blk b10 59 [.int .i64 r4.Events, .slice A6 n7 c8], .row A6 n7 c8 127 4 ((recs GPlace.cells) r4.Places), .blk b17 59 [.int .i64 r11.1.Events, .slice A13 n14 c15], .row A13 n14 c15 127 4 ((recs GPlace.cells) r11.1.Places), .blk b31 59 [.int .i64 r25.1.Events, .slice A27 n28 c29], .row A27 n28 c29 127 4 ((recs GPlace.cells) r25.1.Places), .blk b38 59 [.int .i64 r32.1.Events, .slice A34 n35 c36], .row A34 n35 c36 127 4 ((recs GPlace.cells) r32.1.Places), .blk b56 59 [.int .i64 r46.1.Events, .slice A48 n49 c50], .row A48 n49 c50 127 4 ((recs GPlace.cells) r46.1.Places), .blk b63 59 [.int .i64 r57.1.Events, .slice A59 n60 c61], .row A59 n60 c61 127 4 ((recs GPlace.cells) r57.1.Places), .row A194 xs196.length xs196.length 2 1 (ints xs224), .row A239 n240 c241 127 4 ((recs GPlace.cells) r237.1.Places), .blk b243 59 [.int .i64 r237.1.Events, .slice A239 n240 c241]] := hs
       refine sY hf hs rfl rfl rfl (Y_assign rfl rfl) ?_; clear hf; intro a hf
       refine wpO_nil <| wpL_seq ?_
       obtain ⟨r248, hj249, hj192⟩ := bind_some hj192
       refine wpL_cut (fun a w => ∃ b247 : Bool, b247 = r248 ∧ Fr a 243 [(3, .pointer (some ⟨b10, 0, none⟩)), (4, .pointer (some ⟨b17, 0, none⟩)), (5, .int .i64 r11.2), (8, .pointer (some ⟨b31, 0, none⟩)), (9, .int .i64 r25.2), (10, .pointer (some ⟨b38, 0, none⟩)), (11, .int .i64 r32.2), (176, .bool b247)] ∧ St [] W w [.blk b10 59 [.int .i64 r4.Events, .slice A6 n7 c8], .row A6 n7 c8 127 4 ((recs GPlace.cells) r4.Places), .blk b17 59 [.int .i64 r11.1.Events, .slice A13 n14 c15], .row A13 n14 c15 127 4 ((recs GPlace.cells) r11.1.Places), .blk b31 59 [.int .i64 r25.1.Events, .slice A27 n28 c29], .row A27 n28 c29 127 4 ((recs GPlace.cells) r25.1.Places), .blk b38 59 [.int .i64 r32.1.Events, .slice A34 n35 c36], .row A34 n35 c36 127 4 ((recs GPlace.cells) r32.1.Places)]) ?_ ?_
       ·refine wpL_region ?_
        refine sY hf hs rfl rfl rfl (Y_move rfl rfl) ?_; clear hf; intro a hf
        refine sY hf hs rfl rfl rfl (Y_neq rfl rfl rfl) ?_; clear hf; intro a hf
        refine sY hf hs rfl rfl rfl (Y_move rfl rfl) ?_; clear hf; intro a hf
        refine bsplit (r237.2 != 0) (fun hb250 => ?_) (fun hb250 => ?_)
        ·have hj249 := bif_t hj249 hb250
         refine sNo hf rfl rfl rfl (congrArg (fun b => some (Value.bool b)) hb250) rfl rfl rfl ?_; clear hf; intro a hf
         refine sNo hf rfl rfl rfl (congrArg (fun b => some (Value.bool b)) hb250) rfl rfl rfl ?_; clear hf; intro a hf
         refine sNo hf rfl rfl rfl (congrArg (fun b => some (Value.bool b)) hb250) rfl rfl rfl ?_; clear hf; intro a hf
         refine sNo hf rfl rfl rfl (congrArg (fun b => some (Value.bool b)) hb250) rfl rfl rfl ?_; clear hf; intro a hf
         refine sY hf hs rfl rfl rfl (Y_pickT rfl (congrArg (fun b => some (Value.bool b)) hb250) rfl) ?_; clear hf; intro a hf
         refine wpO_nil ?_
         refine wpL_nil (then_normal ?_)
         exact ⟨true, Option.some.inj hj249, (FrD.pick (FrD.pick (FrD.pick (FrD.pick (FrD.pick (FrD.pick (FrD.pick (FrD.pick hf.none hf rfl) hf rfl) hf rfl) hf rfl) hf rfl) hf rfl) hf rfl) hf rfl), hs.sel [0, 1, 2, 3, 4, 5, 6, 7] (by decide)⟩
        ·have hj249 := bif_f hj249 hb250
         refine sYg hf hs rfl rfl rfl (congrArg (fun b => some (Value.bool b)) hb250) rfl rfl rfl (Y_load_blkS rfl rfl (i := 14) rfl ag59 ti59 rfl) ?_; clear hf; intro a hf
         refine sYg hf hs rfl rfl rfl (congrArg (fun b => some (Value.bool b)) hb250) rfl rfl rfl (Y_load_blkS rfl rfl (i := 8) rfl ag59 ti59 rfl) ?_; clear hf; intro a hf
         obtain ⟨r251, hc252, hj249⟩ := bind_some hj249
         refine sCallg hf rfl rfl rfl (congrArg (fun b => some (Value.bool b)) hb250) rfl rfl rfl rfl (cap := []) rfl rfl en50 (laws_likeGraphs9_ok F (GEventGraph.mk r237.1.Events r237.1.Places) A239 n240 c241 hn242 (GEventGraph.mk r46.1.Events r46.1.Places) A48 n49 c50 hn51 _ _ hc252 (hs.rd (i := 13) rfl) (hs.rd (i := 9) rfl)) ?_; clear hf
         rintro _ w ⟨rfl, hs1⟩ a hf
         have hs : St [] W w [.blk b10 59 [.int .i64 r4.Events, .slice A6 n7 c8], .row A6 n7 c8 127 4 ((recs GPlace.cells) r4.Places), .blk b17 59 [.int .i64 r11.1.Events, .slice A13 n14 c15], .row A13 n14 c15 127 4 ((recs GPlace.cells) r11.1.Places), .blk b31 59 [.int .i64 r25.1.Events, .slice A27 n28 c29], .row A27 n28 c29 127 4 ((recs GPlace.cells) r25.1.Places), .blk b38 59 [.int .i64 r32.1.Events, .slice A34 n35 c36], .row A34 n35 c36 127 4 ((recs GPlace.cells) r32.1.Places), .blk b56 59 [.int .i64 r46.1.Events, .slice A48 n49 c50], .row A48 n49 c50 127 4 ((recs GPlace.cells) r46.1.Places), .blk b63 59 [.int .i64 r57.1.Events, .slice A59 n60 c61], .row A59 n60 c61 127 4 ((recs GPlace.cells) r57.1.Places), .row A194 xs196.length xs196.length 2 1 (ints xs224), .row A239 n240 c241 127 4 ((recs GPlace.cells) r237.1.Places), .blk b243 59 [.int .i64 r237.1.Events, .slice A239 n240 c241]] := hs.ext hs1.below
         clear hs1
         refine sYg hf hs rfl rfl rfl (congrArg (fun b => some (Value.bool b)) hb250) rfl rfl rfl (Y_not rfl rfl) ?_; clear hf; intro a hf
         refine sY hf hs rfl rfl rfl (Y_pickF rfl (congrArg (fun b => some (Value.bool b)) hb250) rfl) ?_; clear hf; intro a hf
         refine wpO_nil ?_
         refine wpL_nil (then_normal ?_)
         exact ⟨(!r251), Option.some.inj hj249, (FrD.pick (FrD.pick (FrD.pick (FrD.pick (FrD.pick (FrD.pick (FrD.pick (FrD.pick hf.none hf rfl) hf rfl) hf rfl) hf rfl) hf rfl) hf rfl) hf rfl) hf rfl), hs.sel [0, 1, 2, 3, 4, 5, 6, 7] (by decide)⟩
       ·rintro a w ⟨b247, hr_, hf, hs⟩
        subst hr_
        try dsimp only at hj192
        refine wpL_cond hf rfl (fun hb253 => ?_) (fun hb253 => ?_)
        ·have hj192 := bif_t hj192 hb253
         refine wpL_seq <| wpL_region ?_
         refine sY hf hs rfl rfl rfl (Y_assign rfl rfl) ?_; clear hf; intro a hf
         refine wpO_nil ?_
         obtain rfl := Option.some.inj hj192
         try dsimp only at hm
         obtain rfl := Option.some.inj hm
         refine wpL_ret (then_ret (ret_tmp rfl hf rfl ?_))
         exact ⟨_, rfl, rfl, hs.sel [] (by decide)⟩
        ·have hj192 := bif_f hj192 hb253
         refine wpL_skip ?_
         refine wpL_nil (then_normal ?_)
         exact ⟨Option.some.inj hj192, (FrD.pick (FrD.pick (FrD.pick (FrD.pick (FrD.pick (FrD.pick (FrD.pick hf.none hf rfl) hf rfl) hf rfl) hf rfl) hf rfl) hf rfl) hf rfl), hs⟩
     ·have hj192 := bif_f hj192 hb193
      refine wpL_skip ?_
      refine wpL_nil (then_normal ?_)
      exact ⟨Option.some.inj hj192, (FrD.pick (FrD.pick (FrD.pick (FrD.pick (FrD.pick (FrD.pick (FrD.pick hf.none hf rfl) hf rfl) hf rfl) hf rfl) hf rfl) hf rfl) hf rfl), hs.sel [0, 1, 2, 3, 4, 5, 6, 7] (by decide)⟩
    ·rintro a w ⟨hr_, hf, hs⟩
     subst hr_
     try dsimp only at hm
     refine wpL_seq <| wpL_seq ?_
     obtain ⟨r256, hj257, hm⟩ := bind_some hm
     refine wpL_cut (fun a w => ∃ b255 : Bool, b255 = r256 ∧ Fr a 243 [(3, .pointer (some ⟨b10, 0, none⟩)), (4, .pointer (some ⟨b17, 0, none⟩)), (5, .int .i64 r11.2), (8, .pointer (some ⟨b31, 0, none⟩)), (9, .int .i64 r25.2), (10, .pointer (some ⟨b38, 0, none⟩)), (184, .bool b255)] ∧ St [] W w [.blk b10 59 [.int .i64 r4.Events, .slice A6 n7 c8], .row A6 n7 c8 127 4 ((recs GPlace.cells) r4.Places), .blk b17 59 [.int .i64 r11.1.Events, .slice A13 n14 c15], .row A13 n14 c15 127 4 ((recs GPlace.cells) r11.1.Places), .blk b31 59 [.int .i64 r25.1.Events, .slice A27 n28 c29], .row A27 n28 c29 127 4 ((recs GPlace.cells) r25.1.Places), .blk b38 59 [.int .i64 r32.1.Events, .slice A34 n35 c36], .row A34 n35 c36 127 4 ((recs GPlace.cells) r32.1.Places)]) ?_ ?_
     ·refine wpL_region ?_
      refine sY hf hs rfl rfl rfl (Y_move rfl rfl) ?_; clear hf; intro a hf
      refine sY hf hs rfl rfl rfl (Y_eql rfl rfl rfl) ?_; clear hf; intro a hf
      refine sY hf hs rfl rfl rfl (Y_move rfl rfl) ?_; clear hf; intro a hf
      refine bsplit (r32.2 == 0) (fun hb258 => ?_) (fun hb258 => ?_)
      ·have hj257 := bif_t hj257 hb258
       refine sYg hf hs rfl rfl rfl (congrArg (fun b => some (Value.bool b)) hb258) rfl rfl rfl (Y_fieldAddr rfl rfl fo59_1) ?_; clear hf; intro a hf
       refine sYg hf hs rfl rfl rfl (congrArg (fun b => some (Value.bool b)) hb258) rfl rfl rfl (Y_load_blk rfl rfl (i := 4) rfl rfl ag57) ?_; clear hf; intro a hf
       refine sYg hf hs rfl rfl rfl (congrArg (fun b => some (Value.bool b)) hb258) rfl rfl rfl (Y_lenH rfl rfl el57 hn30) ?_; clear hf; intro a hf
       refine sYg hf hs rfl rfl rfl (congrArg (fun b => some (Value.bool b)) hb258) rfl rfl rfl (Y_lss rfl rfl rfl) ?_; clear hf; intro a hf
       refine sY hf hs rfl rfl rfl (Y_pickT rfl (congrArg (fun b => some (Value.bool b)) hb258) rfl) ?_; clear hf; intro a hf
       refine wpO_nil ?_
       refine wpL_nil (then_normal ?_)
       exact ⟨(decide ((r25.1.Places.length : Int) < 16)), Option.some.inj hj257, (FrD.pick (FrD.pick (FrD.pick (FrD.pick (FrD.pick (FrD.pick (FrD.pick hf.none hf rfl) hf rfl) hf rfl) hf rfl) hf rfl) hf rfl) hf rfl), hs⟩
      ·have hj257 := bif_f hj257 hb258
       refine sNo hf rfl rfl rfl (congrArg (fun b => some (Value.bool b)) hb258) rfl rfl rfl ?_; clear hf; intro a hf
       refine sNo hf rfl rfl rfl (congrArg (fun b => some (Value.bool b)) hb258) rfl rfl rfl ?_; clear hf; intro a hf
       refine sNo hf rfl rfl rfl (congrArg (fun b => some (Value.bool b)) hb258) rfl rfl rfl ?_; clear hf; intro a hf
       refine sNo hf rfl rfl rfl (congrArg (fun b => some (Value.bool b)) hb258) rfl rfl rfl ?_; clear hf; intro a hf
       refine sY hf hs rfl rfl rfl (Y_pickF rfl (congrArg (fun b => some (Value.bool b)) hb258) rfl) ?_; clear hf; intro a hf
       refine wpO_nil ?_
       refine wpL_nil (then_normal ?_)
       exact ⟨false, Option.some.inj hj257, (FrD.pick (FrD.pick (FrD.pick (FrD.pick (FrD.pick (FrD.pick (FrD.pick hf.none hf rfl) hf rfl) hf rfl) hf rfl) hf rfl) hf rfl) hf rfl), hs⟩
     ·rintro a w ⟨b255, hr_, hf, hs⟩
      subst hr_
      try dsimp only at hm
      obtain ⟨r274, hj275, hm⟩ := bind_some hm
      refine wpL_cut (fun a w => Sum.inr () = r274 ∧ Fr a 243 [(3, .pointer (some ⟨b10, 0, none⟩)), (4, .pointer (some ⟨b17, 0, none⟩)), (5, .int .i64 r11.2)] ∧ St [] W w [.blk b10 59 [.int .i64 r4.Events, .slice A6 n7 c8], .row A6 n7 c8 127 4 ((recs GPlace.cells) r4.Places), .blk b17 59 [.int .i64 r11.1.Events, .slice A13 n14 c15], .row A13 n14 c15 127 4 ((recs GPlace.cells) r11.1.Places)]) ?_ ?_
      ·refine wpL_cond hf rfl (fun hb276 => ?_) (fun hb276 => ?_)
       ·have hj275 := bif_t hj275 hb276
        refine wpL_seq <| wpL_region ?_
        refine sY hf hs rfl rfl rfl (Y_load_blkS rfl rfl (i := 4) rfl ag59 ti59 rfl) ?_; clear hf; intro a hf
        obtain ⟨r277, hc278, hj275⟩ := bind_some hj275
        refine sCall hf rfl rfl rfl rfl (cap := []) rfl rfl en57 (impl_CycleTime_ok F (GEventGraph.mk r25.1.Events r25.1.Places) A27 n28 c29 hn30 _ _ hc278 (hs.rd (i := 5) rfl)) ?_; clear hf
        rintro _ w ⟨rfl, hs1⟩ a hf
        have hs : St [] W w [.blk b10 59 [.int .i64 r4.Events, .slice A6 n7 c8], .row A6 n7 c8 127 4 ((recs GPlace.cells) r4.Places), .blk b17 59 [.int .i64 r11.1.Events, .slice A13 n14 c15], .row A13 n14 c15 127 4 ((recs GPlace.cells) r11.1.Places), .blk b31 59 [.int .i64 r25.1.Events, .slice A27 n28 c29], .row A27 n28 c29 127 4 ((recs GPlace.cells) r25.1.Places), .blk b38 59 [.int .i64 r32.1.Events, .slice A34 n35 c36], .row A34 n35 c36 127 4 ((recs GPlace.cells) r32.1.Places)] := hs.ext hs1.below
        clear hs1
        refine sY hf hs rfl rfl rfl (Y_move rfl rfl) ?_; clear hf; intro a hf
        refine sY hf hs rfl rfl rfl (Y_extract rfl rfl rfl) ?_; clear hf; intro a hf
        refine sY hf hs rfl rfl rfl (Y_extract rfl rfl rfl) ?_; clear hf; intro a hf
        refine sAlloc hf hs rfl rfl rfl rfl ti75 ?_; clear hf hs; intro a w b279 hs hf
        have hs : St [] W w [.blk b10 59 [.int .i64 r4.Events, .slice A6 n7 c8], .row A6 n7 c8 127 4 ((recs GPlace.cells) r4.Places), .blk b17 59 [.int .i64 r11.1.Events, .slice A13 n14 c15], .row A13 n14 c15 127 4 ((recs GPlace.cells) r11.1.Places), .blk b31 59 [.int .i64 r25.1.Events, .slice A27 n28 c29], .row A27 n28 c29 127 4 ((recs GPlace.cells) r25.1.Places), .blk b38 59 [.int .i64 r32.1.Events, .slice A34 n35 c36], .row A34 n35 c36 127 4 ((recs GPlace.cells) r32.1.Places), .blk b279 75 [.int .i64 0, .int .i64 0]] := hs
        refine sStore (i := 8) (us := [.int .i64 r277.1.Num, .int .i64 r277.1.Den]) hf hs rfl rfl rfl rfl rfl rfl ti75 rfl rfl rfl (Nat.le_of_ble_eq_true rfl) rfl ?_; clear hs; intro w hs
        have hs : St [] W w [.blk b10 59 [.int .i64 r4.Events, .slice A6 n7 c8], .row A6 n7 c8 127 4 ((recs GPlace.cells) r4.Places), .blk b17 59 [.int .i64 r11.1.Events, .slice A13 n14 c15], .row A13 n14 c15 127 4 ((recs GPlace.cells) r11.1.Places), .blk b31 59 [.int .i64 r25.1.Events, .slice A27 n28 c29], .row A27 n28 c29 127 4 ((recs GPlace.cells) r25.1.Places), .blk b38 59 [.int .i64 r32.1.Events, .slice A34 n35 c36], .row A34 n35 c36 127 4 ((recs GPlace.cells) r32.1.Places), .blk b279 75 [.int .i64 r277.1.Num, .int .i64 r277.1.Den]] := hs
        refine sY hf hs rfl rfl rfl (Y_assign rfl rfl) ?_; clear hf; intro a hf
        refine wpO_nil <| wpL_seq <| wpL_region ?_
        refine sY hf hs rfl rfl rfl (Y_load_blkS rfl rfl (i := 6) rfl ag59 ti59 rfl) ?_; clear hf; intro a hf
        obtain ⟨r280, hc281, hj275⟩ := bind_some hj275
        refine sCall hf rfl rfl rfl rfl (cap := []) rfl rfl en57 (impl_CycleTime_ok F (GEventGraph.mk r32.1.Events r32.1.Places) A34 n35 c36 hn37 _ _ hc281 (hs.rd (i := 7) rfl)) ?_; clear hf
        rintro _ w ⟨rfl, hs1⟩ a hf
        have hs : St [] W w [.blk b10 59 [.int .i64 r4.Events, .slice A6 n7 c8], .row A6 n7 c8 127 4 ((recs GPlace.cells) r4.Places), .blk b17 59 [.int .i64 r11.1.Events, .slice A13 n14 c15], .row A13 n14 c15 127 4 ((recs GPlace.cells) r11.1.Places), .blk b31 59 [.int .i64 r25.1.Events, .slice A27 n28 c29], .row A27 n28 c29 127 4 ((recs GPlace.cells) r25.1.Places), .blk b38 59 [.int .i64 r32.1.Events, .slice A34 n35 c36], .row A34 n35 c36 127 4 ((recs GPlace.cells) r32.1.Places), .blk b279 75 [.int .i64 r277.1.Num, .int .i64 r277.1.Den]] := hs.ext hs1.below
        clear hs1
        refine sY hf hs rfl rfl rfl (Y_move rfl rfl) ?_; clear hf; intro a hf
        refine sY hf hs rfl rfl rfl (Y_extract rfl rfl rfl) ?_; clear hf; intro a hf
        refine sY hf hs rfl rfl rfl (Y_extract rfl rfl rfl) ?_; clear hf; intro a hf
        refine sAlloc hf hs rfl rfl rfl rfl ti75 ?_; clear hf hs; intro a w b282 hs hf
        have hs : St [] W w [.blk b10 59 [.int .i64 r4.Events, .slice A6 n7 c8], .row A6 n7 c8 127 4 ((recs GPlace.cells) r4.Places), .blk b17 59 [.int .i64 r11.1.Events, .slice A13 n14 c15], .row A13 n14 c15 127 4 ((recs GPlace.cells) r11.1.Places), .blk b31 59 [.int .i64 r25.1.Events, .slice A27 n28 c29], .row A27 n28 c29 127 4 ((recs GPlace.cells) r25.1.Places), .blk b38 59 [.int .i64 r32.1.Events, .slice A34 n35 c36], .row A34 n35 c36 127 4 ((recs GPlace.cells) r32.1.Places), .blk b279 75 [.int .i64 r277.1.Num, .int .i64 r277.1.Den], .blk b282 75 [.int .i64 0, .int .i64 0]] := hs
        refine sStore (i := 9) (us := [.int .i64 r280.1.Num, .int .i64 r280.1.Den]) hf hs rfl rfl rfl rfl rfl rfl ti75 rfl rfl rfl (Nat.le_of_ble_eq_true rfl) rfl ?_; clear hs; intro w hs
        have hs : St [] W w [.blk b10 59 [.int .i64 r4.Events, .slice A6 n7 c8], .row A6 n7 c8 127 4 ((recs GPlace.cells) r4.Places), .blk b17 59 [.int .i64 r11.1.Events, .slice A13 n14 c15], .row A13 n14 c15 127 4 ((recs GPlace.cells) r11.1.Places), .blk b31 59 [.int .i64 r25.1.Events, .slice A27 n28 c29], .row A27 n28 c29 127 4 ((recs GPlace.cells) r25.1.Places), .blk b38 59 [.int .i64 r32.1.Events, .slice A34 n35 c36], .row A34 n35 c36 127 4 ((recs GPlace.cells) r32.1.Places), .blk b279 75 [.int .i64 r277.1.Num, .int .i64 r277.1.Den], .blk b282 75 [.int .i64 r280.1.Num, .int .i64 r280.1.Den]] := hs
        refine sY hf hs rfl rfl rfl (Y_assign rfl rfl) ?_; clear hf; intro a hf
        refine wpO_nil <| wpL_seq ?_
        obtain ⟨r286, hj287, hj275⟩ := bind_some hj275
        refine wpL_cut (fun a w => ∃ b285 : Bool, b285 = r286 ∧ Fr a 243 [(3, .pointer (some ⟨b10, 0, none⟩)), (4, .pointer (some ⟨b17, 0, none⟩)), (5, .int .i64 r11.2), (216, .bool b285)] ∧ St [] W w [.blk b10 59 [.int .i64 r4.Events, .slice A6 n7 c8], .row A6 n7 c8 127 4 ((recs GPlace.cells) r4.Places), .blk b17 59 [.int .i64 r11.1.Events, .slice A13 n14 c15], .row A13 n14 c15 127 4 ((recs GPlace.cells) r11.1.Places)]) ?_ ?_
        ·refine wpL_region ?_
         refine sY hf hs rfl rfl rfl (Y_move rfl rfl) ?_; clear hf; intro a hf
         refine sY hf hs rfl rfl rfl (Y_move rfl rfl) ?_; clear hf; intro a hf
         refine sY hf hs rfl rfl rfl (Y_neq rfl rfl rfl) ?_; clear hf; intro a hf
         refine sY hf hs rfl rfl rfl (Y_move rfl rfl) ?_; clear hf; intro a hf
         refine bsplit (r277.2 != r280.2) (fun hb288 => ?_) (fun hb288 => ?_)
         ·have hj287 := bif_t hj287 hb288
          refine sNo hf rfl rfl rfl (congrArg (fun b => some (Value.bool b)) hb288) rfl rfl rfl ?_; clear hf; intro a hf
          refine sNo hf rfl rfl rfl (congrArg (fun b => some (Value.bool b)) hb288) rfl rfl rfl ?_; clear hf; intro a hf
          refine sNo hf rfl rfl rfl (congrArg (fun b => some (Value.bool b)) hb288) rfl rfl rfl ?_; clear hf; intro a hf
          refine sNoU hf rfl rfl rfl rfl rfl rfl rfl ?_; clear hf; intro a hf
          refine sNoU hf rfl rfl rfl rfl rfl rfl rfl ?_; clear hf; intro a hf
          refine sNoU hf rfl rfl rfl rfl rfl rfl rfl ?_; clear hf; intro a hf
          refine sNoU hf rfl rfl rfl rfl rfl rfl rfl ?_; clear hf; intro a hf
          refine sNoU hf rfl rfl rfl rfl rfl rfl rfl ?_; clear hf; intro a hf
          refine sNoU hf rfl rfl rfl rfl rfl rfl rfl ?_; clear hf; intro a hf
          refine sNoU hf rfl rfl rfl rfl rfl rfl rfl ?_; clear hf; intro a hf
          refine sNoU hf rfl rfl rfl rfl rfl rfl rfl ?_; clear hf; intro a hf
          refine sNoU hf rfl rfl rfl rfl rfl rfl rfl ?_; clear hf; intro a hf
          refine sNoU hf rfl rfl rfl rfl rfl rfl rfl ?_; clear hf; intro a hf
          refine sNoU hf rfl rfl rfl rfl rfl rfl rfl ?_; clear hf; intro a hf
          refine sNoU hf rfl rfl rfl rfl rfl rfl rfl ?_; clear hf; intro a hf
          refine sNoU hf rfl rfl rfl rfl rfl rfl rfl ?_; clear hf; intro a hf
          refine sNo hf rfl rfl rfl (congrArg (fun b => some (Value.bool b)) hb288) rfl rfl rfl ?_; clear hf; intro a hf
          refine sY hf hs rfl rfl rfl (Y_pickT rfl (congrArg (fun b => some (Value.bool b)) hb288) rfl) ?_; clear hf; intro a hf
          refine wpO_nil ?_
          refine wpL_nil (then_normal ?_)
          exact ⟨true, Option.some.inj hj287, (FrD.pick (FrD.pick (FrD.pick (FrD.pick hf.none hf rfl) hf rfl) hf rfl) hf rfl), hs.sel [0, 1, 2, 3] (by decide)⟩
         ·have hj287 := bif_f hj287 hb288
          refine sYg hf hs rfl rfl rfl (congrArg (fun b => some (Value.bool b)) hb288) rfl rfl rfl (Y_move rfl rfl) ?_; clear hf; intro a hf
          refine sYg hf hs rfl rfl rfl (congrArg (fun b => some (Value.bool b)) hb288) rfl rfl rfl (Y_eql rfl rfl rfl) ?_; clear hf; intro a hf
          refine sYg hf hs rfl rfl rfl (congrArg (fun b => some (Value.bool b)) hb288) rfl rfl rfl (Y_move rfl rfl) ?_; clear hf; intro a hf
          refine bsplit (r277.2 == 0) (fun hb289 => ?_) (fun hb289 => ?_)
          ·have hj287 := bif_t hj287 hb289
           refine sYg hf hs rfl rfl rfl (congrArg (fun b => some (Value.bool b)) hb289) rfl rfl rfl (Y_fieldAddr rfl rfl fo75_0) ?_; clear hf; intro a hf
           refine sYg hf hs rfl rfl rfl (congrArg (fun b => some (Value.bool b)) hb289) rfl rfl rfl (Y_load_blk rfl rfl (i := 9) rfl rfl ag2) ?_; clear hf; intro a hf
           refine sYg hf hs rfl rfl rfl (congrArg (fun b => some (Value.bool b)) hb289) rfl rfl rfl (Y_fieldAddr rfl rfl fo75_1) ?_; clear hf; intro a hf
           refine sYg hf hs rfl rfl rfl (congrArg (fun b => some (Value.bool b)) hb289) rfl rfl rfl (Y_load_blk rfl rfl (i := 8) rfl rfl ag2) ?_; clear hf; intro a hf
           refine sYg hf hs rfl rfl rfl (congrArg (fun b => some (Value.bool b)) hb289) rfl rfl rfl (Y_mul rfl rfl rfl) ?_; clear hf; intro a hf
           refine sYg hf hs rfl rfl rfl (congrArg (fun b => some (Value.bool b)) hb289) rfl rfl rfl (Y_move rfl rfl) ?_; clear hf; intro a hf
           refine sYg hf hs rfl rfl rfl (congrArg (fun b => some (Value.bool b)) hb289) rfl rfl rfl (Y_fieldAddr rfl rfl fo75_0) ?_; clear hf; intro a hf
           refine sYg hf hs rfl rfl rfl (congrArg (fun b => some (Value.bool b)) hb289) rfl rfl rfl (Y_load_blk rfl rfl (i := 8) rfl rfl ag2) ?_; clear hf; intro a hf
           refine sYg hf hs rfl rfl rfl (congrArg (fun b => some (Value.bool b)) hb289) rfl rfl rfl (Y_mul rfl rfl rfl) ?_; clear hf; intro a hf
           refine sYg hf hs rfl rfl rfl (congrArg (fun b => some (Value.bool b)) hb289) rfl rfl rfl (Y_fieldAddr rfl rfl fo75_1) ?_; clear hf; intro a hf
           refine sYg hf hs rfl rfl rfl (congrArg (fun b => some (Value.bool b)) hb289) rfl rfl rfl (Y_load_blk rfl rfl (i := 9) rfl rfl ag2) ?_; clear hf; intro a hf
           refine sYg hf hs rfl rfl rfl (congrArg (fun b => some (Value.bool b)) hb289) rfl rfl rfl (Y_mul rfl rfl rfl) ?_; clear hf; intro a hf
           refine sYg hf hs rfl rfl rfl (congrArg (fun b => some (Value.bool b)) hb289) rfl rfl rfl (Y_neq rfl rfl rfl) ?_; clear hf; intro a hf
           refine sYg hf hs rfl rfl rfl (congrArg (fun b => some (Value.bool b)) hb288) rfl rfl rfl (Y_pickT rfl (congrArg (fun b => some (Value.bool b)) hb289) rfl) ?_; clear hf; intro a hf
           refine sY hf hs rfl rfl rfl (Y_pickF rfl (congrArg (fun b => some (Value.bool b)) hb288) rfl) ?_; clear hf; intro a hf
           refine wpO_nil ?_
           refine wpL_nil (then_normal ?_)
           exact ⟨((IntKind.i64.wrap (r280.1.Num * r277.1.Den)) != (IntKind.i64.wrap ((IntKind.i64.wrap (r25.2 * r277.1.Num)) * r280.1.Den))), Option.some.inj hj287, (FrD.pick (FrD.pick (FrD.pick (FrD.pick hf.none hf rfl) hf rfl) hf rfl) hf rfl), hs.sel [0, 1, 2, 3] (by decide)⟩
          ·have hj287 := bif_f hj287 hb289
           refine sNo hf rfl rfl rfl (congrArg (fun b => some (Value.bool b)) hb289) rfl rfl rfl ?_; clear hf; intro a hf
           refine sNo hf rfl rfl rfl (congrArg (fun b => some (Value.bool b)) hb289) rfl rfl rfl ?_; clear hf; intro a hf
           refine sNo hf rfl rfl rfl (congrArg (fun b => some (Value.bool b)) hb289) rfl rfl rfl ?_; clear hf; intro a hf
           refine sNo hf rfl rfl rfl (congrArg (fun b => some (Value.bool b)) hb289) rfl rfl rfl ?_; clear hf; intro a hf
           refine sNo hf rfl rfl rfl (congrArg (fun b => some (Value.bool b)) hb289) rfl rfl rfl ?_; clear hf; intro a hf
           refine sNo hf rfl rfl rfl (congrArg (fun b => some (Value.bool b)) hb289) rfl rfl rfl ?_; clear hf; intro a hf
           refine sNo hf rfl rfl rfl (congrArg (fun b => some (Value.bool b)) hb289) rfl rfl rfl ?_; clear hf; intro a hf
           refine sNo hf rfl rfl rfl (congrArg (fun b => some (Value.bool b)) hb289) rfl rfl rfl ?_; clear hf; intro a hf
           refine sNo hf rfl rfl rfl (congrArg (fun b => some (Value.bool b)) hb289) rfl rfl rfl ?_; clear hf; intro a hf
           refine sNo hf rfl rfl rfl (congrArg (fun b => some (Value.bool b)) hb289) rfl rfl rfl ?_; clear hf; intro a hf
           refine sNo hf rfl rfl rfl (congrArg (fun b => some (Value.bool b)) hb289) rfl rfl rfl ?_; clear hf; intro a hf
           refine sNo hf rfl rfl rfl (congrArg (fun b => some (Value.bool b)) hb289) rfl rfl rfl ?_; clear hf; intro a hf
           refine sNo hf rfl rfl rfl (congrArg (fun b => some (Value.bool b)) hb289) rfl rfl rfl ?_; clear hf; intro a hf
           refine sYg hf hs rfl rfl rfl (congrArg (fun b => some (Value.bool b)) hb288) rfl rfl rfl (Y_pickF rfl (congrArg (fun b => some (Value.bool b)) hb289) rfl) ?_; clear hf; intro a hf
           refine sY hf hs rfl rfl rfl (Y_pickF rfl (congrArg (fun b => some (Value.bool b)) hb288) rfl) ?_; clear hf; intro a hf
           refine wpO_nil ?_
           refine wpL_nil (then_normal ?_)
           exact ⟨false, Option.some.inj hj287, (FrD.pick (FrD.pick (FrD.pick (FrD.pick hf.none hf rfl) hf rfl) hf rfl) hf rfl), hs.sel [0, 1, 2, 3] (by decide)⟩
        ·rintro a w ⟨b285, hr_, hf, hs⟩
         subst hr_
         try dsimp only at hj275
         refine wpL_cond hf rfl (fun hb290 => ?_) (fun hb290 => ?_)
         ·have hj275 := bif_t hj275 hb290
          refine wpL_seq <| wpL_region ?_
          refine sY hf hs rfl rfl rfl (Y_assign rfl rfl) ?_; clear hf; intro a hf
          refine wpO_nil ?_
          obtain rfl := Option.some.inj hj275
          try dsimp only at hm
          obtain rfl := Option.some.inj hm
          refine wpL_ret (then_ret (ret_tmp rfl hf rfl ?_))
          exact ⟨_, rfl, rfl, hs.sel [] (by decide)⟩
         ·have hj275 := bif_f hj275 hb290
          refine wpL_skip ?_
          refine wpL_nil (then_normal ?_)
          exact ⟨Option.some.inj hj275, (FrD.pick (FrD.pick (FrD.pick hf.none hf rfl) hf rfl) hf rfl), hs⟩
       ·have hj275 := bif_f hj275 hb276
        refine wpL_skip ?_
        refine wpL_nil (then_normal ?_)
        exact ⟨Option.some.inj hj275, (FrD.pick (FrD.pick (FrD.pick hf.none hf rfl) hf rfl) hf rfl), hs.sel [0, 1, 2, 3] (by decide)⟩
      ·rintro a w ⟨hr_, hf, hs⟩
       subst hr_
       try dsimp only at hm
       refine wpL_seq <| wpL_seq ?_
       obtain ⟨r293, hj294, hm⟩ := bind_some hm
       refine wpL_cut (fun a w => ∃ b292 : Bool, b292 = r293 ∧ Fr a 243 [(3, .pointer (some ⟨b10, 0, none⟩)), (4, .pointer (some ⟨b17, 0, none⟩)), (224, .bool b292)] ∧ St [] W w [.blk b10 59 [.int .i64 r4.Events, .slice A6 n7 c8], .row A6 n7 c8 127 4 ((recs GPlace.cells) r4.Places), .blk b17 59 [.int .i64 r11.1.Events, .slice A13 n14 c15], .row A13 n14 c15 127 4 ((recs GPlace.cells) r11.1.Places)]) ?_ ?_
       ·refine wpL_region ?_
        refine sY hf hs rfl rfl rfl (Y_move rfl rfl) ?_; clear hf; intro a hf
        refine sY hf hs rfl rfl rfl (Y_neq rfl rfl rfl) ?_; clear hf; intro a hf
        refine sY hf hs rfl rfl rfl (Y_move rfl rfl) ?_; clear hf; intro a hf
        refine bsplit (r11.2 != 0) (fun hb295 => ?_) (fun hb295 => ?_)
        ·have hj294 := bif_t hj294 hb295
         refine sNo hf rfl rfl rfl (congrArg (fun b => some (Value.bool b)) hb295) rfl rfl rfl ?_; clear hf; intro a hf
         refine sNo hf rfl rfl rfl (congrArg (fun b => some (Value.bool b)) hb295) rfl rfl rfl ?_; clear hf; intro a hf
         refine sNo hf rfl rfl rfl (congrArg (fun b => some (Value.bool b)) hb295) rfl rfl rfl ?_; clear hf; intro a hf
         refine sNo hf rfl rfl rfl (congrArg (fun b => some (Value.bool b)) hb295) rfl rfl rfl ?_; clear hf; intro a hf
         refine sY hf hs rfl rfl rfl (Y_pickT rfl (congrArg (fun b => some (Value.bool b)) hb295) rfl) ?_; clear hf; intro a hf
         refine wpO_nil ?_
         refine wpL_nil (then_normal ?_)
         exact ⟨true, Option.some.inj hj294, (FrD.pick (FrD.pick (FrD.pick hf.none hf rfl) hf rfl) hf rfl), hs⟩
        ·have hj294 := bif_f hj294 hb295
         refine sYg hf hs rfl rfl rfl (congrArg (fun b => some (Value.bool b)) hb295) rfl rfl rfl (Y_fieldAddr rfl rfl fo59_1) ?_; clear hf; intro a hf
         refine sYg hf hs rfl rfl rfl (congrArg (fun b => some (Value.bool b)) hb295) rfl rfl rfl (Y_load_blk rfl rfl (i := 0) rfl rfl ag57) ?_; clear hf; intro a hf
         refine sYg hf hs rfl rfl rfl (congrArg (fun b => some (Value.bool b)) hb295) rfl rfl rfl (Y_lenH rfl rfl el57 hn9) ?_; clear hf; intro a hf
         refine sYg hf hs rfl rfl rfl (congrArg (fun b => some (Value.bool b)) hb295) rfl rfl rfl (Y_gtr rfl rfl rfl) ?_; clear hf; intro a hf
         refine sY hf hs rfl rfl rfl (Y_pickF rfl (congrArg (fun b => some (Value.bool b)) hb295) rfl) ?_; clear hf; intro a hf
         refine wpO_nil ?_
         refine wpL_nil (then_normal ?_)
         exact ⟨(decide (16 < (r4.Places.length : Int))), Option.some.inj hj294, (FrD.pick (FrD.pick (FrD.pick hf.none hf rfl) hf rfl) hf rfl), hs⟩
       ·rintro a w ⟨b292, hr_, hf, hs⟩
        subst hr_
        try dsimp only at hm
        refine wpL_cond hf rfl (fun hb296 => ?_) (fun hb296 => ?_)
        ·have hm := bif_t hm hb296
         refine wpL_seq <| wpL_region ?_
         refine sY hf hs rfl rfl rfl (Y_assign rfl rfl) ?_; clear hf; intro a hf
         refine wpO_nil ?_
         obtain rfl := Option.some.inj hm
         refine wpL_ret (ret_tmp rfl hf rfl ?_)
         exact ⟨_, rfl, rfl, hs.sel [] (by decide)⟩
        ·have hm := bif_f hm hb296
         refine wpL_skip <| wpL_seq <| wpL_region ?_
         refine sY hf hs rfl rfl rfl (Y_load_blkS rfl rfl (i := 0) rfl ag59 ti59 rfl) ?_; clear hf; intro a hf
         obtain ⟨r297, hc298, hm⟩ := bind_some hm
         refine sCall hf rfl rfl rfl rfl (cap := []) rfl rfl en57 (impl_CycleTime_ok F r4 A6 n7 c8 hn9 _ _ hc298 (hs.rd (i := 1) rfl)) ?_; clear hf
         rintro _ w ⟨rfl, hs1⟩ a hf
         have hs : St [] W w [.blk b10 59 [.int .i64 r4.Events, .slice A6 n7 c8], .row A6 n7 c8 127 4 ((recs GPlace.cells) r4.Places), .blk b17 59 [.int .i64 r11.1.Events, .slice A13 n14 c15], .row A13 n14 c15 127 4 ((recs GPlace.cells) r11.1.Places)] := hs.ext hs1.below
         clear hs1
         refine sY hf hs rfl rfl rfl (Y_move rfl rfl) ?_; clear hf; intro a hf
         refine sY hf hs rfl rfl rfl (Y_extract rfl rfl rfl) ?_; clear hf; intro a hf
         refine sY hf hs rfl rfl rfl (Y_extract rfl rfl rfl) ?_; clear hf; intro a hf
         refine sAlloc hf hs rfl rfl rfl rfl ti75 ?_; clear hf hs; intro a w b299 hs hf
         have hs : St [] W w [.blk b10 59 [.int .i64 r4.Events, .slice A6 n7 c8], .row A6 n7 c8 127 4 ((recs GPlace.cells) r4.Places), .blk b17 59 [.int .i64 r11.1.Events, .slice A13 n14 c15], .row A13 n14 c15 127 4 ((recs GPlace.cells) r11.1.Places), .blk b299 75 [.int .i64 0, .int .i64 0]] := hs
         refine sStore (i := 4) (us := [.int .i64 r297.1.Num, .int .i64 r297.1.Den]) hf hs rfl rfl rfl rfl rfl rfl ti75 rfl rfl rfl (Nat.le_of_ble_eq_true rfl) rfl ?_; clear hs; intro w hs
         have hs : St [] W w [.blk b10 59 [.int .i64 r4.Events, .slice A6 n7 c8], .row A6 n7 c8 127 4 ((recs GPlace.cells) r4.Places), .blk b17 59 [.int .i64 r11.1.Events, .slice A13 n14 c15], .row A13 n14 c15 127 4 ((recs GPlace.cells) r11.1.Places), .blk b299 75 [.int .i64 r297.1.Num, .int .i64 r297.1.Den]] := hs
         refine sY hf hs rfl rfl rfl (Y_assign rfl rfl) ?_; clear hf; intro a hf
         refine wpO_nil <| wpL_seq <| wpL_region ?_
         refine sY hf hs rfl rfl rfl (Y_load_blkS rfl rfl (i := 2) rfl ag59 ti59 rfl) ?_; clear hf; intro a hf
         obtain ⟨r300, hc301, hm⟩ := bind_some hm
         refine sCall hf rfl rfl rfl rfl (cap := []) rfl rfl en57 (impl_CycleTime_ok F (GEventGraph.mk r11.1.Events r11.1.Places) A13 n14 c15 hn16 _ _ hc301 (hs.rd (i := 3) rfl)) ?_; clear hf
         rintro _ w ⟨rfl, hs1⟩ a hf
         have hs : St [] W w [.blk b10 59 [.int .i64 r4.Events, .slice A6 n7 c8], .row A6 n7 c8 127 4 ((recs GPlace.cells) r4.Places), .blk b17 59 [.int .i64 r11.1.Events, .slice A13 n14 c15], .row A13 n14 c15 127 4 ((recs GPlace.cells) r11.1.Places), .blk b299 75 [.int .i64 r297.1.Num, .int .i64 r297.1.Den]] := hs.ext hs1.below
         clear hs1
         refine sY hf hs rfl rfl rfl (Y_move rfl rfl) ?_; clear hf; intro a hf
         refine sY hf hs rfl rfl rfl (Y_extract rfl rfl rfl) ?_; clear hf; intro a hf
         refine sY hf hs rfl rfl rfl (Y_extract rfl rfl rfl) ?_; clear hf; intro a hf
         refine sAlloc hf hs rfl rfl rfl rfl ti75 ?_; clear hf hs; intro a w b302 hs hf
         have hs : St [] W w [.blk b10 59 [.int .i64 r4.Events, .slice A6 n7 c8], .row A6 n7 c8 127 4 ((recs GPlace.cells) r4.Places), .blk b17 59 [.int .i64 r11.1.Events, .slice A13 n14 c15], .row A13 n14 c15 127 4 ((recs GPlace.cells) r11.1.Places), .blk b299 75 [.int .i64 r297.1.Num, .int .i64 r297.1.Den], .blk b302 75 [.int .i64 0, .int .i64 0]] := hs
         refine sStore (i := 5) (us := [.int .i64 r300.1.Num, .int .i64 r300.1.Den]) hf hs rfl rfl rfl rfl rfl rfl ti75 rfl rfl rfl (Nat.le_of_ble_eq_true rfl) rfl ?_; clear hs; intro w hs
         have hs : St [] W w [.blk b10 59 [.int .i64 r4.Events, .slice A6 n7 c8], .row A6 n7 c8 127 4 ((recs GPlace.cells) r4.Places), .blk b17 59 [.int .i64 r11.1.Events, .slice A13 n14 c15], .row A13 n14 c15 127 4 ((recs GPlace.cells) r11.1.Places), .blk b299 75 [.int .i64 r297.1.Num, .int .i64 r297.1.Den], .blk b302 75 [.int .i64 r300.1.Num, .int .i64 r300.1.Den]] := hs
         refine sY hf hs rfl rfl rfl (Y_assign rfl rfl) ?_; clear hf; intro a hf
         refine wpO_nil <| wpL_seq ?_
         obtain ⟨r305, hj306, hm⟩ := bind_some hm
         refine wpL_cut (fun a w => ∃ b304 : Bool, b304 = r305 ∧ Fr a 243 [(2, .bool b304)] ∧ St [] W w []) ?_ ?_
         ·refine wpL_region ?_
          refine sY hf hs rfl rfl rfl (Y_move rfl rfl) ?_; clear hf; intro a hf
          refine sY hf hs rfl rfl rfl (Y_move rfl rfl) ?_; clear hf; intro a hf
          refine sY hf hs rfl rfl rfl (Y_eql rfl rfl rfl) ?_; clear hf; intro a hf
          refine sY hf hs rfl rfl rfl (Y_move rfl rfl) ?_; clear hf; intro a hf
          refine bsplit (r297.2 == r300.2) (fun hb307 => ?_) (fun hb307 => ?_)
          ·have hj306 := bif_t hj306 hb307
           refine sYg hf hs rfl rfl rfl (congrArg (fun b => some (Value.bool b)) hb307) rfl rfl rfl (Y_load_blkS rfl rfl (i := 4) rfl ag75 ti75 rfl) ?_; clear hf; intro a hf
           refine sYg hf hs rfl rfl rfl (congrArg (fun b => some (Value.bool b)) hb307) rfl rfl rfl (Y_load_blkS rfl rfl (i := 5) rfl ag75 ti75 rfl) ?_; clear hf; intro a hf
           refine sYg hf hs rfl rfl rfl (congrArg (fun b => some (Value.bool b)) hb307) rfl rfl rfl (Y_eqlS rfl rfl rfl eqg75 (eqf75 r297.1.Num r297.1.Den r300.1.Num r300.1.Den)) ?_; clear hf; intro a hf
           refine sY hf hs rfl rfl rfl (Y_pickT rfl (congrArg (fun b => some (Value.bool b)) hb307) rfl) ?_; clear hf; intro a hf
           refine sY hf hs rfl rfl rfl (Y_assign rfl rfl) ?_; clear hf; intro a hf
           refine wpO_nil ?_
           refine wpL_nil (then_normal ?_)
           exact ⟨(r297.1.Num == r300.1.Num && (r297.1.Den == r300.1.Den)), Option.some.inj hj306, (FrD.pick hf.none hf rfl), hs.sel [] (by decide)⟩
          ·have hj306 := bif_f hj306 hb307
           refine sNo hf rfl rfl rfl (congrArg (fun b => some (Value.bool b)) hb307) rfl rfl rfl ?_; clear hf; intro a hf
           refine sNo hf rfl rfl rfl (congrArg (fun b => some (Value.bool b)) hb307) rfl rfl rfl ?_; clear hf; intro a hf
           refine sNo hf rfl rfl rfl (congrArg (fun b => some (Value.bool b)) hb307) rfl rfl rfl ?_; clear hf; intro a hf
           refine sY hf hs rfl rfl rfl (Y_pickF rfl (congrArg (fun b => some (Value.bool b)) hb307) rfl) ?_; clear hf; intro a hf
           refine sY hf hs rfl rfl rfl (Y_assign rfl rfl) ?_; clear hf; intro a hf
           refine wpO_nil ?_
           refine wpL_nil (then_normal ?_)
           exact ⟨false, Option.some.inj hj306, (FrD.pick hf.none hf rfl), hs.sel [] (by decide)⟩
         ·rintro a w ⟨b304, hr_, hf, hs⟩
          subst hr_
          try dsimp only at hm
          obtain rfl := Option.some.inj hm
          refine wpL_ret (ret_tmp rfl hf rfl ?_)
          exact ⟨_, rfl, rfl, hs⟩

end Go.Proofs.Ytgkgimglgjfcjaa
