/- The functions do what their models say. -/
import Derived.Test.YtebmlphobgaboaaFreeSlacksLifted5
import Derived.Test.YtebmlphobgaboaaRows
namespace Go.Proofs.Ytebmlphobgaboaa
open Go.RowKit

set_option maxHeartbeats 2000000 in
set_option maxRecDepth 100000 in
theorem spec_DelayedEvents_ok (F : Nat) (p0 : GEventGraph) (aq : Option Addr) (aP au : Nat) (bL : aP = p0.Places.length) (p1 : GTimetable) (ay : Option Addr) (aM aB : Nat) (bU : aM = p1.Starts.length) (p2 : Int) (p3 : Int) (r : List Int × Int) (W : World) (hm : spec_DelayedEvents F p0 p1 p2 p3 = some r) (aR : Rd W aq ((recs GPlace.cells) p0.Places)) (bc : Rd W ay (ints p1.Starts)) :
  Calls Try.prog 44 [.agg #[.int .i64 p0.Events, .slice aq aP au], .agg #[.int .i64 p1.Period, .slice ay aM aB], .int .i64 p2, .int .i64 p3].toArray W fun e w' => ∃ v, e = .returned v ∧ ∃ A463, ∃ n464, ∃ c465, v = .tuple #[.slice A463 n464 c465, .int .i64 r.2] ∧ n464 = r.1.length ∧ St [] W w' [.row A463 n464 c465 2 1 (ints r.1)] := by
 subst bL
 subst bU
 unfold spec_DelayedEvents at hm
 refine Calls.enter (N := 74) Try.func44 rfl rfl rfl (fun a hf => ?_)
 have hs := St.start W
 obtain ⟨w, hw_⟩ : ∃ w, w = W := ⟨W, rfl⟩
 clear hw_ w
 refine wpL_seq <| wpL_region ?_
 refine sBox hf hs rfl rfl rfl rfl rfl (cs := [.int .i64 p0.Events, .slice aq p0.Places.length au]) rfl ?_; clear hf hs; intro a w b1 hs hf
 have hs : St _ W w [.blk b1 52 [.int .i64 p0.Events, .slice aq p0.Places.length au]] := hs
 refine sBox hf hs rfl rfl rfl rfl rfl (cs := [.int .i64 p1.Period, .slice ay p1.Starts.length aB]) rfl ?_; clear hf hs; intro a w b2 hs hf
 have hs : St _ W w [_, .blk b2 54 [.int .i64 p1.Period, .slice ay p1.Starts.length aB]] := hs
 refine sY hf hs rfl rfl rfl (Y_assign rfl rfl) ?_; clear hf; intro a hf
 refine sY hf hs rfl rfl rfl (Y_assign rfl rfl) ?_; clear hf; intro a hf
 refine wpO_nil <| wpL_seq ?_
 obtain ⟨r9, hj10, hm⟩ := bind_some hm
 refine wpL_cut (fun a w => ∃ b8 : Bool, b8 = r9 ∧ Fr a 74 [(2, .int .i64 p2), (3, .int .i64 p3), (4, .pointer (some ⟨b1, 0, none⟩)), (5, .pointer (some ⟨b2, 0, none⟩)), (10, .bool b8)] ∧ St [] W w [.blk b1 52 [.int .i64 p0.Events, .slice aq p0.Places.length au], .blk b2 54 [.int .i64 p1.Period, .slice ay p1.Starts.length aB]]) ?_ ?_
 ·refine wpL_region ?_
  refine sY hf hs rfl rfl rfl (Y_move rfl rfl) ?_; clear hf; intro a hf
  refine sY hf hs rfl rfl rfl (Y_fieldAddr rfl rfl fo52_0) ?_; clear hf; intro a hf
  refine sY hf hs rfl rfl rfl (Y_load_blk rfl rfl (i := 0) rfl rfl ag2) ?_; clear hf; intro a hf
  refine sY hf hs rfl rfl rfl (Y_sub rfl rfl rfl) ?_; clear hf; intro a hf
  obtain ⟨r11, hc12, hj10⟩ := bind_some hj10
  refine sCall hf rfl rfl rfl rfl (cap := []) rfl rfl en89 (spec_l01In_ok F p2 0 (IntKind.i64.wrap (p0.Events - 1)) _ _ hc12) ?_; clear hf
  rintro _ w ⟨rfl, hs1⟩ a hf
  have hs : St _ W w [_, _] := hs.ext hs1.below
  clear hs1
  refine sY hf hs rfl rfl rfl (Y_move rfl rfl) ?_; clear hf; intro a hf
  refine bsplit r11 (fun hb13 => ?_) (fun hb13 => ?_)
  ·have hj10 := bif_t hj10 hb13
   refine sYg hf hs rfl rfl rfl (congrArg (fun b => some (Value.bool b)) hb13) rfl rfl rfl (Y_move rfl rfl) ?_; clear hf; intro a hf
   obtain ⟨r14, hc15, hj10⟩ := bind_some hj10
   refine sCallg hf rfl rfl rfl (congrArg (fun b => some (Value.bool b)) hb13) rfl rfl rfl rfl (cap := []) rfl rfl en89 (spec_l01In_ok F p3 0 1000000 _ _ hc15) ?_; clear hf
   rintro _ w ⟨rfl, hs1⟩ a hf
   have hs : St _ W w [_, _] := hs.ext hs1.below
   clear hs1
   refine sY hf hs rfl rfl rfl (Y_pickT rfl (congrArg (fun b => some (Value.bool b)) hb13) rfl) ?_; clear hf; intro a hf
   refine sY hf hs rfl rfl rfl (Y_assign rfl rfl) ?_; clear hf; intro a hf
   refine wpO_nil ?_
   refine wpL_nil (then_normal ?_)
   exact ⟨r14, Option.some.inj hj10, (FrD.pick (FrD.pick (FrD.pick (FrD.pick (FrD.pick hf.none hf rfl) hf rfl) hf rfl) hf rfl) hf rfl), hs⟩
  ·have hj10 := bif_f hj10 hb13
   refine sNo hf rfl rfl rfl (congrArg (fun b => some (Value.bool b)) hb13) rfl rfl rfl ?_; clear hf; intro a hf
   refine sNo hf rfl rfl rfl (congrArg (fun b => some (Value.bool b)) hb13) rfl rfl rfl ?_; clear hf; intro a hf
   refine sY hf hs rfl rfl rfl (Y_pickF rfl (congrArg (fun b => some (Value.bool b)) hb13) rfl) ?_; clear hf; intro a hf
   refine sY hf hs rfl rfl rfl (Y_assign rfl rfl) ?_; clear hf; intro a hf
   refine wpO_nil ?_
   refine wpL_nil (then_normal ?_)
   exact ⟨false, Option.some.inj hj10, (FrD.pick (FrD.pick (FrD.pick (FrD.pick (FrD.pick hf.none hf rfl) hf rfl) hf rfl) hf rfl) hf rfl), hs⟩
 ·rintro a w ⟨b8, hr_, hf, hs⟩
  subst hr_
  try dsimp only at hm
  refine wpL_seq ?_
  refine wpL_drawM [.blk b1 52 [.int .i64 p0.Events, .slice aq p0.Places.length au], .blk b2 54 [.int .i64 p1.Period, .slice ay p1.Starts.length aB]] [7] (by kernel_rfl) hs ?_; clear hs; intro w hs
  have hs0 : St _ W w [_, _] := hs
  refine mY (i := 0) [[]] rfl (by kernel_rfl) (by kernel_rfl) hf hs0 rfl rfl rfl (Y_load_blkS rfl rfl (i := 0) rfl ag52 ti52 rfl) ?_; clear hf; intro a hf
  refine mY (i := 1) [[]] rfl (by kernel_rfl) (by kernel_rfl) hf hs0 rfl rfl rfl (Y_load_blkS rfl rfl (i := 1) rfl ag54 ti54 rfl) ?_; clear hf; intro a hf
  refine mY (i := 2) [[5]] rfl (by kernel_rfl) (by kernel_rfl) hf hs0 rfl rfl rfl (Y_load_blkS rfl rfl (i := 0) rfl ag52 ti52 rfl) ?_; clear hf; intro a hf
  refine mYp (i := 3) rfl (by kernel_rfl) (by kernel_rfl) hf rfl rfl rfl (fun _ => Y_move rfl rfl) ?_; clear hf; intro a hf
  refine mYp (i := 4) rfl (by kernel_rfl) (by kernel_rfl) hf rfl rfl rfl (fun _ => Y_move rfl rfl) ?_; clear hf; intro a hf
  refine mYp (i := 6) rfl (by kernel_rfl) (by kernel_rfl) hf rfl rfl rfl (fun _ => Y_move rfl rfl) ?_; clear hf; intro a hf
  refine mRun (i := 5) rfl (by kernel_rfl) ?_
  obtain ⟨r24, hc25, hm⟩ := bind_some hm
  refine sCall hf rfl rfl rfl rfl (cap := []) rfl rfl en88 (spec_l21One_ok F p0 aq p0.Places.length au rfl p2 p3 _ _ hc25 (aR.at hs)) ?_; clear hf
  rintro _ w ⟨A26, n27, c28, rfl, hn29, hs1⟩ a hf
  have hs : St _ W w [_, _, .row A26 n27 c28 2 1 (ints r24)] := hs.join hs1
  clear hs1
  have hs0 : St _ W w [_, _] := hs.sel [0, 1] (by decide)
  refine wpO_nil ⟨Or.inr (fun _ => hs0), ?_⟩
  refine mRun (i := 7) rfl (by kernel_rfl) ?_
  obtain ⟨r30, hc31, hm⟩ := bind_some hm
  refine sCall hf rfl rfl rfl rfl (cap := []) rfl rfl en79 (spec_l21Code_ok F p0 aq p0.Places.length au rfl p1 ay p1.Starts.length aB rfl r24 A26 n27 c28 hn29 b8 _ _ hc31 (aR.at hs) (bc.at hs) (hs.rd (i := 2) rfl)) ?_; clear hf
  rintro _ w ⟨rfl, hs1⟩ a hf
  have hs : St _ W w [_, _, _] := hs.ext hs1.below
  clear hs1
  refine wpO_nil ⟨Or.inl (by decide), ?_⟩
  refine mYp (i := 8) rfl (by kernel_rfl) (by kernel_rfl) hf rfl rfl rfl (fun _ => Y_assign rfl rfl) ?_; clear hf; intro a hf
  refine mDone (by kernel_rfl) ?_
  clear hs0
  refine wpL_seq <| wpL_seq <| wpL_region ?_
  refine sY hf hs rfl rfl rfl (Y_move rfl rfl) ?_; clear hf; intro a hf
  refine sY hf hs rfl rfl rfl (Y_neq rfl rfl rfl) ?_; clear hf; intro a hf
  refine wpO_nil ?_
  refine wpL_cond hf rfl (fun hb32 => ?_) (fun hb32 => ?_)
  ·have hm := bif_t hm hb32
   refine wpL_seq <| wpL_region ?_
   refine sY hf hs rfl rfl rfl (Y_move rfl rfl) ?_; clear hf; intro a hf
   refine sY hf hs rfl rfl rfl (Y_assign rfl rfl) ?_; clear hf; intro a hf
   refine sY hf hs rfl rfl rfl (Y_assign rfl rfl) ?_; clear hf; intro a hf
   refine wpO_nil ?_
   have hs : St [] W _ [.blk b1 52 [.int .i64 p0.Events, .slice aq p0.Places.length au], .blk b2 54 [.int .i64 p1.Period, .slice ay p1.Starts.length aB], .row A26 n27 c28 2 1 (ints r24), .row none 0 0 2 1 (ints ([] : List Int))] := hs.addNil 2 1
   obtain rfl := Option.some.inj hm
   refine wpL_ret (ret_tmp2 rfl hf rfl rfl ?_)
   exact ⟨_, rfl, none, 0, 0, rfl, rfl, hs.sel [3] (by decide)⟩
  ·have hm := bif_f hm hb32
   refine wpL_skip <| wpL_seq ?_
   refine wpL_drawM [.blk b1 52 [.int .i64 p0.Events, .slice aq p0.Places.length au], .blk b2 54 [.int .i64 p1.Period, .slice ay p1.Starts.length aB], .row A26 n27 c28 2 1 (ints r24)] [6] (by kernel_rfl) hs ?_; clear hs; intro w hs
   have hs0 : St _ W w [_, _, _] := hs
   refine mY (i := 0) [[]] rfl (by kernel_rfl) (by kernel_rfl) hf hs0 rfl rfl rfl (Y_load_blkS rfl rfl (i := 0) rfl ag52 ti52 rfl) ?_; clear hf; intro a hf
   refine mY (i := 1) [[]] rfl (by kernel_rfl) (by kernel_rfl) hf hs0 rfl rfl rfl (Y_load_blkS rfl rfl (i := 1) rfl ag54 ti54 rfl) ?_; clear hf; intro a hf
   refine mY (i := 2) [[5]] rfl (by kernel_rfl) (by kernel_rfl) hf hs0 rfl rfl rfl (Y_load_blkS rfl rfl (i := 0) rfl ag52 ti52 rfl) ?_; clear hf; intro a hf
   refine mYp (i := 3) rfl (by kernel_rfl) (by kernel_rfl) hf rfl rfl rfl (fun _ => Y_move rfl rfl) ?_; clear hf; intro a hf
   refine mYp (i := 4) rfl (by kernel_rfl) (by kernel_rfl) hf rfl rfl rfl (fun _ => Y_move rfl rfl) ?_; clear hf; intro a hf
   refine mRun (i := 5) rfl (by kernel_rfl) ?_
   obtain ⟨r47, hc48, hm⟩ := bind_some hm
   refine sCall hf rfl rfl rfl rfl (cap := []) rfl rfl en88 (spec_l21One_ok F p0 aq p0.Places.length au rfl p2 p3 _ _ hc48 (aR.at hs)) ?_; clear hf
   rintro _ w ⟨A49, n50, c51, rfl, hn52, hs1⟩ a hf
   have hs : St _ W w [_, _, _, .row A49 n50 c51 2 1 (ints r47)] := hs.join hs1
   clear hs1
   have hs0 : St _ W w [_, _, _] := hs.sel [0, 1, 2] (by decide)
   refine wpO_nil ⟨Or.inr (fun _ => hs0), ?_⟩
   refine mRun (i := 6) rfl (by kernel_rfl) ?_
   obtain ⟨r53, hc54, hm⟩ := bind_some hm
   refine sCall hf rfl rfl rfl rfl (cap := []) rfl rfl en95 (spec_l21Table_ok F p0 aq p0.Places.length au rfl p1 ay p1.Starts.length aB rfl r47 A49 n50 c51 hn52 50 _ _ hc54 (aR.at hs) (bc.at hs) (hs.rd (i := 3) rfl)) ?_; clear hf
   rintro _ w ⟨A55, n56, c57, vs59, rfl, hn58, hs1⟩ a hf
   have hs : St _ W w [_, _, _, _, .mat A55 n56 c57 23 2 vs59 r53] := hs.join hs1
   clear hs1
   refine wpO_nil ⟨Or.inl (by decide), ?_⟩
   refine mYp (i := 7) rfl (by kernel_rfl) (by kernel_rfl) hf rfl rfl rfl (fun _ => Y_assign rfl rfl) ?_; clear hf; intro a hf
   refine mDone (by kernel_rfl) ?_
   clear hs0
   refine wpL_seq <| wpL_region ?_
   refine sEmpty hf hs rfl rfl rfl rfl el23 ti2 ?_; clear hf hs; intro a w A60 hs hf
   have hs : St _ W w [_, _, _, _, _, .row A60 0 0 2 1 (ints ([] : List Int))] := hs
   refine sY hf hs rfl rfl rfl (Y_assign rfl rfl) ?_; clear hf; intro a hf
   refine wpO_nil <| wpL_seq <| wpL_seq <| wpL_region ?_
   refine sY hf hs rfl rfl rfl (Y_assign rfl rfl) ?_; clear hf; intro a hf
   refine wpO_nil ?_
   obtain ⟨r364, hl365, hm⟩ := bind_some hm
   refine wpL_block (fun a w => ∃ xs359 : List Int, ∃ A360, ∃ n361, ∃ c362, xs359 = r364 ∧ n361 = xs359.length ∧ Fr a 74 [(13, .slice A360 n361 c362)] ∧ St [] W w [.row A360 n361 c362 2 1 (ints xs359)]) ?_ ?_
   ·refine wpL_loop (fun n a w => ∃ xs258 : List Int, ∃ x263 : Int, ∃ A259, ∃ n260, ∃ c261, spec_DelayedEvents_L4 F p0 r53 n xs258 x263 = some r364 ∧ n260 = xs258.length ∧ Fr a 74 [(4, .pointer (some ⟨b1, 0, none⟩)), (12, .slice A55 n56 c57), (13, .slice A259 n260 c261), (14, .int .i64 x263)] ∧ St [] W w [.blk b1 52 [.int .i64 p0.Events, .slice aq p0.Places.length au], .mat A55 n56 c57 23 2 vs59 r53, .row A259 n260 c261 2 1 (ints xs258)]) F ?_ ?_ ?_
    ·exact ⟨([] : List Int), 0, A60, 0, 0, hl365, rfl, (FrD.pick (FrD.pick (FrD.pick (FrD.pick hf.none hf rfl) hf rfl) hf rfl) hf rfl), hs.sel [0, 4, 5] (by decide)⟩
    ·rintro a w ⟨xs258, x263, A259, n260, c261, h0_, -, -, -⟩; simp [spec_DelayedEvents_L4] at h0_
    ·rintro n367 a w ⟨xs258, x263, A259, n260, c261, hm366, hn262, hf, hs⟩
     rw [spec_DelayedEvents_L4] at hm366
     refine wpL_seq <| wpL_seq <| wpL_region ?_
     refine sY hf hs rfl rfl rfl (Y_move rfl rfl) ?_; clear hf; intro a hf
     refine sY hf hs rfl rfl rfl (Y_fieldAddr rfl rfl fo52_0) ?_; clear hf; intro a hf
     refine sY hf hs rfl rfl rfl (Y_load_blk rfl rfl (i := 0) rfl rfl ag2) ?_; clear hf; intro a hf
     refine sY hf hs rfl rfl rfl (Y_lss rfl rfl rfl) ?_; clear hf; intro a hf
     refine wpO_nil ?_
     refine wpL_cond hf rfl (fun hb368 => ?_) (fun hb368 => ?_)
     ·have hm366 := bif_t hm366 hb368
      refine wpL_skip <| wpL_seq <| wpL_block0 <| wpL_seq <| wpL_region ?_
      refine sY hf hs rfl rfl rfl (Y_assign rfl rfl) ?_; clear hf; intro a hf
      refine wpO_nil <| wpL_seq <| wpL_seq <| wpL_region ?_
      refine sY hf hs rfl rfl rfl (Y_assign rfl rfl) ?_; clear hf; intro a hf
      refine wpO_nil ?_
      obtain ⟨r432, hl433, hm366⟩ := bind_some hm366
      refine wpL_block (fun a w => ∃ b431 : Bool, b431 = r432 ∧ Fr a 74 [(4, .pointer (some ⟨b1, 0, none⟩)), (12, .slice A55 n56 c57), (13, .slice A259 n260 c261), (14, .int .i64 x263), (15, .bool b431)] ∧ St [] W w [.blk b1 52 [.int .i64 p0.Events, .slice aq p0.Places.length au], .mat A55 n56 c57 23 2 vs59 r53, .row A259 n260 c261 2 1 (ints xs258)]) ?_ ?_
      ·refine wpL_loop (fun n a w => ∃ b409 : Bool, ∃ x410 : Int, spec_DelayedEvents_L5 F r53 x263 n b409 x410 = some r432 ∧ Fr a 74 [(4, .pointer (some ⟨b1, 0, none⟩)), (12, .slice A55 n56 c57), (13, .slice A259 n260 c261), (14, .int .i64 x263), (15, .bool b409), (16, .int .i64 x410)] ∧ St [] W w [.blk b1 52 [.int .i64 p0.Events, .slice aq p0.Places.length au], .mat A55 n56 c57 23 2 vs59 r53, .row A259 n260 c261 2 1 (ints xs258)]) F ?_ ?_ ?_
       ·exact ⟨false, 0, hl433, (FrD.pick (FrD.pick (FrD.pick (FrD.pick (FrD.pick (FrD.pick hf.none hf rfl) hf rfl) hf rfl) hf rfl) hf rfl) hf rfl), hs⟩
       ·rintro a w ⟨b409, x410, h0_, -, -⟩; simp [spec_DelayedEvents_L5] at h0_
       ·rintro n435 a w ⟨b409, x410, hm434, hf, hs⟩
        rw [spec_DelayedEvents_L5] at hm434
        refine wpL_seq <| wpL_seq <| wpL_region ?_
        refine sY hf hs rfl rfl rfl (Y_move rfl rfl) ?_; clear hf; intro a hf
        refine sY hf hs rfl rfl rfl (Y_move rfl rfl) ?_; clear hf; intro a hf
        refine sY hf hs rfl rfl rfl (Y_lenH rfl rfl el59 hn58) ?_; clear hf; intro a hf
        refine sY hf hs rfl rfl rfl (Y_lss rfl rfl rfl) ?_; clear hf; intro a hf
        refine wpO_nil ?_
        refine wpL_cond hf rfl (fun hb436 => ?_) (fun hb436 => ?_)
        ·have hm434 := bif_t hm434 hb436
         refine wpL_skip <| wpL_seq <| wpL_block0 ?_
         obtain ⟨r446, hj447, hm434⟩ := bind_some hm434
         refine wpL_cut (fun a w => ∃ b445 : Bool, b445 = r446 ∧ Fr a 74 [(4, .pointer (some ⟨b1, 0, none⟩)), (12, .slice A55 n56 c57), (13, .slice A259 n260 c261), (14, .int .i64 x263), (15, .bool b445), (16, .int .i64 x410)] ∧ St [] W w [.blk b1 52 [.int .i64 p0.Events, .slice aq p0.Places.length au], .mat A55 n56 c57 23 2 vs59 r53, .row A259 n260 c261 2 1 (ints xs258)]) ?_ ?_
         ·refine wpL_region ?_
          refine sY hf hs rfl rfl rfl (Y_move rfl rfl) ?_; clear hf; intro a hf
          refine sY hf hs rfl rfl rfl (Y_move rfl rfl) ?_; clear hf; intro a hf
          refine bsplit b409 (fun hb448 => ?_) (fun hb448 => ?_)
          ·have hj447 := bif_t hj447 hb448
           refine sNo hf rfl rfl rfl (congrArg (fun b => some (Value.bool b)) hb448) rfl rfl rfl ?_; clear hf; intro a hf
           refine sNo hf rfl rfl rfl (congrArg (fun b => some (Value.bool b)) hb448) rfl rfl rfl ?_; clear hf; intro a hf
           refine sNo hf rfl rfl rfl (congrArg (fun b => some (Value.bool b)) hb448) rfl rfl rfl ?_; clear hf; intro a hf
           refine sNo hf rfl rfl rfl (congrArg (fun b => some (Value.bool b)) hb448) rfl rfl rfl ?_; clear hf; intro a hf
           refine sNo hf rfl rfl rfl (congrArg (fun b => some (Value.bool b)) hb448) rfl rfl rfl ?_; clear hf; intro a hf
           refine sNo hf rfl rfl rfl (congrArg (fun b => some (Value.bool b)) hb448) rfl rfl rfl ?_; clear hf; intro a hf
           refine sNo hf rfl rfl rfl (congrArg (fun b => some (Value.bool b)) hb448) rfl rfl rfl ?_; clear hf; intro a hf
           refine sNo hf rfl rfl rfl (congrArg (fun b => some (Value.bool b)) hb448) rfl rfl rfl ?_; clear hf; intro a hf
           refine sY hf hs rfl rfl rfl (Y_pickT rfl (congrArg (fun b => some (Value.bool b)) hb448) rfl) ?_; clear hf; intro a hf
           refine sY hf hs rfl rfl rfl (Y_assign rfl rfl) ?_; clear hf; intro a hf
           refine wpO_nil ?_
           refine wpL_nil (then_normal ?_)
           exact ⟨true, Option.some.inj hj447, (FrD.pick (FrD.pick (FrD.pick (FrD.pick (FrD.pick (FrD.pick hf.none hf rfl) hf rfl) hf rfl) hf rfl) hf rfl) hf rfl), hs⟩
          ·have hj447 := bif_f hj447 hb448
           refine sYg hf hs rfl rfl rfl (congrArg (fun b => some (Value.bool b)) hb448) rfl rfl rfl (Y_move rfl rfl) ?_; clear hf; intro a hf
           refine sYg hf hs rfl rfl rfl (congrArg (fun b => some (Value.bool b)) hb448) rfl rfl rfl (Y_move rfl rfl) ?_; clear hf; intro a hf
           obtain ⟨q449, hi450, hj447⟩ := bind_some hj447
           obtain ⟨hi450a, hi450b, hi450q⟩ := idx_some hi450
           obtain ⟨A451, c452, hv453⟩ := hs.matRow (i := 1) rfl hi450q
           refine sYg hf hs rfl rfl rfl (congrArg (fun b => some (Value.bool b)) hb448) rfl rfl rfl (Y_index rfl rfl rfl el59 ti23 (Rd.isAt (hs.rdV (i := 1) rfl) hv453) hi450a (ltn hn58 hi450b)) ?_; clear hf; intro a hf
           refine sYg hf hs rfl rfl rfl (congrArg (fun b => some (Value.bool b)) hb448) rfl rfl rfl (Y_load_rd rfl rfl (fun w hs => hs.rdV (i := 1) rfl) (at1 hv453) ag23) ?_; clear hf; intro a hf
           refine sYg hf hs rfl rfl rfl (congrArg (fun b => some (Value.bool b)) hb448) rfl rfl rfl (Y_move rfl rfl) ?_; clear hf; intro a hf
           obtain ⟨q454, hi455, hj447⟩ := bind_some hj447
           obtain ⟨hi455a, hi455b, hi455q⟩ := idx_some hi455
           refine sYg hf hs rfl rfl rfl (congrArg (fun b => some (Value.bool b)) hb448) rfl rfl rfl (Y_index rfl rfl rfl el23 ti2 (Rd.isAt (hs.rdRow (i := 1) rfl ⟨hi450q, hv453⟩) (at1 (ints_at hi455q))) hi455a hi455b) ?_; clear hf; intro a hf
           refine sYg hf hs rfl rfl rfl (congrArg (fun b => some (Value.bool b)) hb448) rfl rfl rfl (Y_load_rd rfl rfl (fun w hs => hs.rdRow (i := 1) rfl ⟨hi450q, hv453⟩) (at1 (ints_at hi455q)) ag2) ?_; clear hf; intro a hf
           refine sYg hf hs rfl rfl rfl (congrArg (fun b => some (Value.bool b)) hb448) rfl rfl rfl (Y_gtr rfl rfl rfl) ?_; clear hf; intro a hf
           refine sY hf hs rfl rfl rfl (Y_pickF rfl (congrArg (fun b => some (Value.bool b)) hb448) rfl) ?_; clear hf; intro a hf
           refine sY hf hs rfl rfl rfl (Y_assign rfl rfl) ?_; clear hf; intro a hf
           refine wpO_nil ?_
           refine wpL_nil (then_normal ?_)
           exact ⟨(decide (0 < q454)), Option.some.inj hj447, (FrD.pick (FrD.pick (FrD.pick (FrD.pick (FrD.pick (FrD.pick hf.none hf rfl) hf rfl) hf rfl) hf rfl) hf rfl) hf rfl), hs⟩
         ·rintro a w ⟨b445, hr_, hf, hs⟩
          subst hr_
          try dsimp only at hm434
          refine wpL_nil (Qb_normal ?_)
          refine wpL_region ?_
          refine sY hf hs rfl rfl rfl (Y_move rfl rfl) ?_; clear hf; intro a hf
          refine sY hf hs rfl rfl rfl (Y_add rfl rfl rfl) ?_; clear hf; intro a hf
          refine sY hf hs rfl rfl rfl (Y_assign rfl rfl) ?_; clear hf; intro a hf
          refine wpO_nil ?_
          refine wpL_nil (Ql_normal ?_)
          exact ⟨b445, (IntKind.i64.wrap (x410 + 1)), hm434, (FrD.pick (FrD.pick (FrD.pick (FrD.pick (FrD.pick (FrD.pick hf.none hf rfl) hf rfl) hf rfl) hf rfl) hf rfl) hf rfl), hs⟩
        ·have hm434 := bif_f hm434 hb436
         refine wpL_exit (Ql_exit (Qb_exit ?_))
         exact ⟨b409, Option.some.inj hm434, (FrD.pick (FrD.pick (FrD.pick (FrD.pick (FrD.pick hf.none hf rfl) hf rfl) hf rfl) hf rfl) hf rfl), hs⟩
      ·rintro a w ⟨b431, hr_, hf, hs⟩
       subst hr_
       try dsimp only at hm366
       refine wpL_seq <| wpL_region ?_
       refine sY hf hs rfl rfl rfl (Y_move rfl rfl) ?_; clear hf; intro a hf
       refine wpO_nil ?_
       refine wpL_cond hf rfl (fun hb456 => ?_) (fun hb456 => ?_)
       ·have hm366 := bif_t hm366 hb456
        refine wpL_region ?_
        refine sY hf hs rfl rfl rfl (Y_move rfl rfl) ?_; clear hf; intro a hf
        refine sY hf hs rfl rfl rfl (Y_move rfl rfl) ?_; clear hf; intro a hf
        refine sBuildSlice (parts := [(0, .tmp 70)]) (vs := [.int .i64 x263]) (cells := [.int .i64 x263]) hf hs rfl rfl rfl rfl rfl el23 ti2 rfl rfl rfl rfl ?_; clear hf hs; intro a w A457 hs hA458 hf
        have hs : St _ W w [_, _, _, .row A457 1 1 2 1 (ints ([x263]))] := hs
        obtain ⟨xs461, ha462, hm366⟩ := bind_some hm366
        refine sAppendL (i := 2) (xs := xs258) (ys := [x263]) (enc := ints) hf hs rfl rfl rfl rfl rfl rfl hn262 rfl rfl ha462 el23 ti2 rfl rfl rfl (hs.rd (i := 3) rfl) (Nat.succ_pos _) ints_len1 ints_append ints_one ?_; clear hf hs; intro a w A459 c460 hs hf
        have hs : St _ W w [_, _, .row A459 xs461.length c460 2 1 (ints xs461), _] := hs
        refine sY hf hs rfl rfl rfl (Y_assign rfl rfl) ?_; clear hf; intro a hf
        refine wpO_nil ?_
        refine wpL_nil (Qb_normal ?_)
        refine wpL_region ?_
        refine sY hf hs rfl rfl rfl (Y_move rfl rfl) ?_; clear hf; intro a hf
        refine sY hf hs rfl rfl rfl (Y_add rfl rfl rfl) ?_; clear hf; intro a hf
        refine sY hf hs rfl rfl rfl (Y_assign rfl rfl) ?_; clear hf; intro a hf
        refine wpO_nil ?_
        refine wpL_nil (Ql_normal ?_)
        exact ⟨xs461, (IntKind.i64.wrap (x263 + 1)), A459, xs461.length, c460, hm366, rfl, (FrD.pick (FrD.pick (FrD.pick (FrD.pick hf.none hf rfl) hf rfl) hf rfl) hf rfl), hs.sel [0, 1, 2] (by decide)⟩
       ·have hm366 := bif_f hm366 hb456
        refine wpL_skip ?_
        refine wpL_nil (Qb_normal ?_)
        refine wpL_region ?_
        refine sY hf hs rfl rfl rfl (Y_move rfl rfl) ?_; clear hf; intro a hf
        refine sY hf hs rfl rfl rfl (Y_add rfl rfl rfl) ?_; clear hf; intro a hf
        refine sY hf hs rfl rfl rfl (Y_assign rfl rfl) ?_; clear hf; intro a hf
        refine wpO_nil ?_
        refine wpL_nil (Ql_normal ?_)
        exact ⟨xs258, (IntKind.i64.wrap (x263 + 1)), A259, n260, c261, hm366, hn262, (FrD.pick (FrD.pick (FrD.pick (FrD.pick hf.none hf rfl) hf rfl) hf rfl) hf rfl), hs⟩
     ·have hm366 := bif_f hm366 hb368
      refine wpL_exit (Ql_exit (Qb_exit ?_))
      exact ⟨xs258, A259, n260, c261, Option.some.inj hm366, hn262, (FrD.pick hf.none hf rfl), hs.sel [2] (by decide)⟩
   ·rintro a w ⟨xs359, A360, n361, c362, hr_, hn363, hf, hs⟩
    subst hr_
    try dsimp only at hm
    refine wpL_seq <| wpL_region ?_
    refine sY hf hs rfl rfl rfl (Y_move rfl rfl) ?_; clear hf; intro a hf
    refine sY hf hs rfl rfl rfl (Y_assign rfl rfl) ?_; clear hf; intro a hf
    refine sY hf hs rfl rfl rfl (Y_assign rfl rfl) ?_; clear hf; intro a hf
    refine wpO_nil ?_
    obtain rfl := Option.some.inj hm
    refine wpL_ret (ret_tmp2 rfl hf rfl rfl ?_)
    exact ⟨_, rfl, A360, n361, c362, rfl, hn363, hs⟩

set_option maxRecDepth 100000 in
theorem laws_likeInts_ok (F : Nat) (aH : List Int) (aI : Option Addr) (aW aO : Nat) (bn : aW = aH.length) (bh : List Int) (bo : Option Addr) (bO bE : Nat) (bZ : bO = bh.length) (r : Bool) (W : World) (hm : laws_likeInts F aH bh = some r) (bk : Rd W aI (ints aH)) (bW : Rd W bo (ints bh)) :
  Calls Try.prog 45 [.slice aI aW aO, .slice bo bO bE].toArray W fun e w' => ∃ v, e = .returned v ∧ v = .bool r ∧ St [] W w' [] := by
 subst bn
 subst bZ
 unfold laws_likeInts at hm
 refine Calls.enter (N := 26) Try.func45 rfl rfl rfl (fun a hf => ?_)
 have hs := St.start W
 obtain ⟨w, hw_⟩ : ∃ w, w = W := ⟨W, rfl⟩
 clear hw_ w
 refine wpL_seq <| wpL_region ?_
 refine sY hf hs rfl rfl rfl (Y_assign rfl rfl) ?_; clear hf; intro a hf
 refine wpO_nil <| wpL_seq <| wpL_seq <| wpL_region ?_
 refine sY hf hs rfl rfl rfl (Y_move rfl rfl) ?_; clear hf; intro a hf
 refine sY hf hs rfl rfl rfl (Y_lenH rfl rfl el23 rfl) ?_; clear hf; intro a hf
 refine sY hf hs rfl rfl rfl (Y_move rfl rfl) ?_; clear hf; intro a hf
 refine sY hf hs rfl rfl rfl (Y_lenH rfl rfl el23 rfl) ?_; clear hf; intro a hf
 refine sY hf hs rfl rfl rfl (Y_neq rfl rfl rfl) ?_; clear hf; intro a hf
 refine wpO_nil ?_
 refine wpL_cond hf rfl (fun hb1 => ?_) (fun hb1 => ?_)
 ·have hm := bif_t hm hb1
  refine wpL_seq <| wpL_region ?_
  refine sY hf hs rfl rfl rfl (Y_assign rfl rfl) ?_; clear hf; intro a hf
  refine wpO_nil ?_
  obtain rfl := Option.some.inj hm
  refine wpL_ret (ret_tmp rfl hf rfl ?_)
  exact ⟨_, rfl, rfl, hs⟩
 ·have hm := bif_f hm hb1
  refine wpL_skip <| wpL_seq <| wpL_seq <| wpL_region ?_
  refine sY hf hs rfl rfl rfl (Y_assign rfl rfl) ?_; clear hf; intro a hf
  refine wpO_nil ?_
  obtain ⟨r22, hl23, hm⟩ := bind_some hm
  refine wpL_block (fun a w => Sum.inr () = r22 ∧ Fr a 26 [] ∧ St [] W w []) ?_ ?_
  ·refine wpL_loop (fun n a w => ∃ x15 : Int, laws_likeInts_L1 F aH bh n x15 = some r22 ∧ Fr a 26 [(0, .slice aI aH.length aO), (1, .slice bo bh.length bE), (5, .int .i64 x15)] ∧ St [] W w []) F ?_ ?_ ?_
   ·exact ⟨0, hl23, (FrD.pick (FrD.pick (FrD.pick hf.none hf rfl) hf rfl) hf rfl), hs⟩
   ·rintro a w ⟨x15, h0_, -, -⟩; simp [laws_likeInts_L1] at h0_
   ·rintro n25 a w ⟨x15, hm24, hf, hs⟩
    rw [laws_likeInts_L1] at hm24
    refine wpL_seq <| wpL_seq <| wpL_region ?_
    refine sY hf hs rfl rfl rfl (Y_move rfl rfl) ?_; clear hf; intro a hf
    refine sY hf hs rfl rfl rfl (Y_move rfl rfl) ?_; clear hf; intro a hf
    refine sY hf hs rfl rfl rfl (Y_lenH rfl rfl el23 rfl) ?_; clear hf; intro a hf
    refine sY hf hs rfl rfl rfl (Y_lss rfl rfl rfl) ?_; clear hf; intro a hf
    refine wpO_nil ?_
    refine wpL_cond hf rfl (fun hb26 => ?_) (fun hb26 => ?_)
    ·have hm24 := bif_t hm24 hb26
     refine wpL_skip <| wpL_seq <| wpL_block0 <| wpL_seq ?_
     refine wpL_draw (by kernel_rfl) (by kernel_rfl) hs ?_
     refine qY hf rfl rfl rfl (Y_move rfl rfl) ?_; clear hf; intro a hf
     refine qY hf rfl rfl rfl (Y_move rfl rfl) ?_; clear hf; intro a hf
     obtain ⟨q27, hi28, hm24⟩ := bind_some hm24
     obtain ⟨hi28a, hi28b, hi28q⟩ := idx_some hi28
     refine qY hf rfl rfl rfl (Y_index rfl rfl rfl el23 ti2 (Rd.isAt (bk.at hs) (at1 (ints_at hi28q))) hi28a hi28b) ?_; clear hf; intro a hf
     refine qY hf rfl rfl rfl (Y_load_rd rfl rfl (fun w hs => bk.at hs) (at1 (ints_at hi28q)) ag2) ?_; clear hf; intro a hf
     refine qY hf rfl rfl rfl (Y_move rfl rfl) ?_; clear hf; intro a hf
     refine qY hf rfl rfl rfl (Y_move rfl rfl) ?_; clear hf; intro a hf
     obtain ⟨q29, hi30, hm24⟩ := bind_some hm24
     obtain ⟨hi30a, hi30b, hi30q⟩ := idx_some hi30
     refine qY hf rfl rfl rfl (Y_index rfl rfl rfl el23 ti2 (Rd.isAt (bW.at hs) (at1 (ints_at hi30q))) hi30a hi30b) ?_; clear hf; intro a hf
     refine qY hf rfl rfl rfl (Y_load_rd rfl rfl (fun w hs => bW.at hs) (at1 (ints_at hi30q)) ag2) ?_; clear hf; intro a hf
     refine qY hf rfl rfl rfl (Y_neq rfl rfl rfl) ?_; clear hf; intro a hf
     refine qNil ?_; clear hs; intro w hs
     refine wpL_cond hf rfl (fun hb31 => ?_) (fun hb31 => ?_)
     ·have hm24 := bif_t hm24 hb31
      refine wpL_seq <| wpL_region ?_
      refine sY hf hs rfl rfl rfl (Y_assign rfl rfl) ?_; clear hf; intro a hf
      refine wpO_nil ?_
      obtain rfl := Option.some.inj hm24
      try dsimp only at hm
      obtain rfl := Option.some.inj hm
      refine wpL_ret (Qb_ret (Ql_ret (Qb_ret (ret_tmp rfl hf rfl ?_))))
      exact ⟨_, rfl, rfl, hs⟩
     ·have hm24 := bif_f hm24 hb31
      refine wpL_skip ?_
      refine wpL_nil (Qb_normal ?_)
      refine wpL_region ?_
      refine sY hf hs rfl rfl rfl (Y_move rfl rfl) ?_; clear hf; intro a hf
      refine sY hf hs rfl rfl rfl (Y_add rfl rfl rfl) ?_; clear hf; intro a hf
      refine sY hf hs rfl rfl rfl (Y_assign rfl rfl) ?_; clear hf; intro a hf
      refine wpO_nil ?_
      refine wpL_nil (Ql_normal ?_)
      exact ⟨(IntKind.i64.wrap (x15 + 1)), hm24, (FrD.pick (FrD.pick (FrD.pick hf.none hf rfl) hf rfl) hf rfl), hs⟩
    ·have hm24 := bif_f hm24 hb26
     refine wpL_exit (Ql_exit (Qb_exit ?_))
     exact ⟨Option.some.inj hm24, hf.none, hs⟩
  ·rintro a w ⟨hr_, hf, hs⟩
   subst hr_
   try dsimp only at hm
   refine wpL_seq <| wpL_region ?_
   refine sY hf hs rfl rfl rfl (Y_assign rfl rfl) ?_; clear hf; intro a hf
   refine wpO_nil ?_
   obtain rfl := Option.some.inj hm
   refine wpL_ret (ret_tmp rfl hf rfl ?_)
   exact ⟨_, rfl, rfl, hs⟩

set_option maxRecDepth 100000 in
theorem laws_hasInt_ok (F : Nat) (aN : List Int) (aL : Option Addr) (aT aU : Nat) (bl : aT = aN.length) (bX : Int) (r : Bool) (W : World) (hm : laws_hasInt F aN bX = some r) (bb : Rd W aL (ints aN)) :
  Calls Try.prog 46 [.slice aL aT aU, .int .i64 bX].toArray W fun e w' => ∃ v, e = .returned v ∧ v = .bool r ∧ St [] W w' [] := by
 subst bl
 unfold laws_hasInt at hm
 refine Calls.enter (N := 18) Try.func46 rfl rfl rfl (fun a hf => ?_)
 have hs := St.start W
 obtain ⟨w, hw_⟩ : ∃ w, w = W := ⟨W, rfl⟩
 clear hw_ w
 refine wpL_seq <| wpL_region ?_
 refine sY hf hs rfl rfl rfl (Y_assign rfl rfl) ?_; clear hf; intro a hf
 refine wpO_nil <| wpL_seq <| wpL_seq <| wpL_region ?_
 refine sY hf hs rfl rfl rfl (Y_assign rfl rfl) ?_; clear hf; intro a hf
 refine wpO_nil ?_
 obtain ⟨r15, hl16, hm⟩ := bind_some hm
 refine wpL_block (fun a w => Sum.inr () = r15 ∧ Fr a 18 [] ∧ St [] W w []) ?_ ?_
 ·refine wpL_loop (fun n a w => ∃ x10 : Int, laws_hasInt_L1 F aN bX n x10 = some r15 ∧ Fr a 18 [(0, .slice aL aN.length aU), (1, .int .i64 bX), (5, .int .i64 x10)] ∧ St [] W w []) F ?_ ?_ ?_
  ·exact ⟨0, hl16, (FrD.pick (FrD.pick (FrD.pick hf.none hf rfl) hf rfl) hf rfl), hs⟩
  ·rintro a w ⟨x10, h0_, -, -⟩; simp [laws_hasInt_L1] at h0_
  ·rintro n18 a w ⟨x10, hm17, hf, hs⟩
   rw [laws_hasInt_L1] at hm17
   refine wpL_seq <| wpL_seq <| wpL_region ?_
   refine sY hf hs rfl rfl rfl (Y_move rfl rfl) ?_; clear hf; intro a hf
   refine sY hf hs rfl rfl rfl (Y_move rfl rfl) ?_; clear hf; intro a hf
   refine sY hf hs rfl rfl rfl (Y_lenH rfl rfl el23 rfl) ?_; clear hf; intro a hf
   refine sY hf hs rfl rfl rfl (Y_lss rfl rfl rfl) ?_; clear hf; intro a hf
   refine wpO_nil ?_
   refine wpL_cond hf rfl (fun hb19 => ?_) (fun hb19 => ?_)
   ·have hm17 := bif_t hm17 hb19
    refine wpL_skip <| wpL_seq <| wpL_block0 <| wpL_seq <| wpL_region ?_
    refine sY hf hs rfl rfl rfl (Y_move rfl rfl) ?_; clear hf; intro a hf
    refine sY hf hs rfl rfl rfl (Y_move rfl rfl) ?_; clear hf; intro a hf
    obtain ⟨q20, hi21, hm17⟩ := bind_some hm17
    obtain ⟨hi21a, hi21b, hi21q⟩ := idx_some hi21
    refine sY hf hs rfl rfl rfl (Y_index rfl rfl rfl el23 ti2 (Rd.isAt (bb.at hs) (at1 (ints_at hi21q))) hi21a hi21b) ?_; clear hf; intro a hf
    refine sY hf hs rfl rfl rfl (Y_load_rd rfl rfl (fun w hs => bb.at hs) (at1 (ints_at hi21q)) ag2) ?_; clear hf; intro a hf
    refine sY hf hs rfl rfl rfl (Y_move rfl rfl) ?_; clear hf; intro a hf
    refine sY hf hs rfl rfl rfl (Y_eql rfl rfl rfl) ?_; clear hf; intro a hf
    refine wpO_nil ?_
    refine wpL_cond hf rfl (fun hb22 => ?_) (fun hb22 => ?_)
    ·have hm17 := bif_t hm17 hb22
     refine wpL_seq <| wpL_region ?_
     refine sY hf hs rfl rfl rfl (Y_assign rfl rfl) ?_; clear hf; intro a hf
     refine wpO_nil ?_
     obtain rfl := Option.some.inj hm17
     try dsimp only at hm
     obtain rfl := Option.some.inj hm
     refine wpL_ret (Qb_ret (Ql_ret (Qb_ret (ret_tmp rfl hf rfl ?_))))
     exact ⟨_, rfl, rfl, hs⟩
    ·have hm17 := bif_f hm17 hb22
     refine wpL_skip ?_
     refine wpL_nil (Qb_normal ?_)
     refine wpL_region ?_
     refine sY hf hs rfl rfl rfl (Y_move rfl rfl) ?_; clear hf; intro a hf
     refine sY hf hs rfl rfl rfl (Y_add rfl rfl rfl) ?_; clear hf; intro a hf
     refine sY hf hs rfl rfl rfl (Y_assign rfl rfl) ?_; clear hf; intro a hf
     refine wpO_nil ?_
     refine wpL_nil (Ql_normal ?_)
     exact ⟨(IntKind.i64.wrap (x10 + 1)), hm17, (FrD.pick (FrD.pick (FrD.pick hf.none hf rfl) hf rfl) hf rfl), hs⟩
   ·have hm17 := bif_f hm17 hb19
    refine wpL_exit (Ql_exit (Qb_exit ?_))
    exact ⟨Option.some.inj hm17, hf.none, hs⟩
 ·rintro a w ⟨hr_, hf, hs⟩
  subst hr_
  try dsimp only at hm
  refine wpL_seq <| wpL_region ?_
  refine sY hf hs rfl rfl rfl (Y_assign rfl rfl) ?_; clear hf; intro a hf
  refine wpO_nil ?_
  obtain rfl := Option.some.inj hm
  refine wpL_ret (ret_tmp rfl hf rfl ?_)
  exact ⟨_, rfl, rfl, hs⟩

set_option maxRecDepth 100000 in
theorem impl_DelayTable_ok (F : Nat) (ad : GEventGraph) (ae : Option Addr) (az ah : Nat) (aC : az = ad.Places.length) (am : GTimetable) (ao : Option Addr) (aG ap : Nat) (aQ : aG = am.Starts.length) (aV : List Int) (bg : Option Addr) (bD bx : Nat) (bV : bD = aV.length) (cP : Int) (r : List (List Int) × Int) (W : World) (hm : impl_DelayTable F ad am aV cP = some r) (aA : Rd W ae ((recs GPlace.cells) ad.Places)) (aJ : Rd W ao (ints am.Starts)) (bQ : Rd W bg (ints aV)) :
  Calls Try.prog 37 [.agg #[.int .i64 ad.Events, .slice ae az ah], .agg #[.int .i64 am.Period, .slice ao aG ap], .slice bg bD bx, .int .i64 cP].toArray W fun e w' => ∃ v, e = .returned v ∧ ∃ A16, ∃ n17, ∃ c18, ∃ vs20, v = .tuple #[.slice A16 n17 c18, .int .i64 r.2] ∧ n17 = r.1.length ∧ St [] W w' [.mat A16 n17 c18 23 2 vs20 r.1] := by
 subst aC
 subst aQ
 subst bV
 unfold impl_DelayTable at hm
 refine Calls.enter (N := 25) Try.func37 rfl rfl rfl (fun a hf => ?_)
 have hs := St.start W
 obtain ⟨w, hw_⟩ : ∃ w, w = W := ⟨W, rfl⟩
 clear hw_ w
 refine wpL_seq <| wpL_region ?_
 refine sBox hf hs rfl rfl rfl rfl rfl (cs := [.int .i64 ad.Events, .slice ae ad.Places.length ah]) rfl ?_; clear hf hs; intro a w b1 hs hf
 have hs : St _ W w [.blk b1 52 [.int .i64 ad.Events, .slice ae ad.Places.length ah]] := hs
 refine sBox hf hs rfl rfl rfl rfl rfl (cs := [.int .i64 am.Period, .slice ao am.Starts.length ap]) rfl ?_; clear hf hs; intro a w b2 hs hf
 have hs : St _ W w [_, .blk b2 54 [.int .i64 am.Period, .slice ao am.Starts.length ap]] := hs
 refine sY hf hs rfl rfl rfl (Y_assign rfl rfl) ?_; clear hf; intro a hf
 refine sY hf hs rfl rfl rfl (Y_assign rfl rfl) ?_; clear hf; intro a hf
 refine wpO_nil <| wpL_seq <| wpL_seq ?_
 refine wpL_draw (by kernel_rfl) (by kernel_rfl) hs ?_
 refine qY hf rfl rfl rfl (Y_load_blkS rfl rfl (i := 0) rfl ag52 ti52 rfl) ?_; clear hf; intro a hf
 refine qY hf rfl rfl rfl (Y_load_blkS rfl rfl (i := 1) rfl ag54 ti54 rfl) ?_; clear hf; intro a hf
 refine qY hf rfl rfl rfl (Y_move rfl rfl) ?_; clear hf; intro a hf
 refine qY hf rfl rfl rfl (Y_move rfl rfl) ?_; clear hf; intro a hf
 obtain ⟨r3, hc4, hm⟩ := bind_some hm
 refine qCall hf rfl rfl rfl rfl (cap := []) rfl rfl en85 (v := .bool r3) (fun w hs => Calls.scal (impl_within_ok F cP 0 50 _ _ hc4)) ?_; clear hf; intro a hf
 obtain ⟨r5, hc6, hm⟩ := bind_some hm
 refine qCall hf rfl rfl rfl rfl (cap := []) rfl rfl en77 (v := .int .i64 r5) (fun w hs => Calls.scal (impl_checkDelays_ok F ad ae ad.Places.length ah rfl am ao am.Starts.length ap rfl aV bg aV.length bx rfl r3 _ _ hc6 (aA.at hs) (aJ.at hs) (bQ.at hs))) ?_; clear hf; intro a hf
 refine qY hf rfl rfl rfl (Y_assign rfl rfl) ?_; clear hf; intro a hf
 refine qNil ?_; clear hs; intro w hs
 refine wpL_seq <| wpL_region ?_
 refine sY hf hs rfl rfl rfl (Y_move rfl rfl) ?_; clear hf; intro a hf
 refine sY hf hs rfl rfl rfl (Y_neq rfl rfl rfl) ?_; clear hf; intro a hf
 refine wpO_nil ?_
 refine wpL_cond hf rfl (fun hb7 => ?_) (fun hb7 => ?_)
 ·have hm := bif_t hm hb7
  refine wpL_seq <| wpL_region ?_
  refine sY hf hs rfl rfl rfl (Y_move rfl rfl) ?_; clear hf; intro a hf
  refine sY hf hs rfl rfl rfl (Y_assign rfl rfl) ?_; clear hf; intro a hf
  refine sY hf hs rfl rfl rfl (Y_assign rfl rfl) ?_; clear hf; intro a hf
  refine wpO_nil ?_
  have hs : St [] W _ [.blk b1 52 [.int .i64 ad.Events, .slice ae ad.Places.length ah], .blk b2 54 [.int .i64 am.Period, .slice ao am.Starts.length ap], .mat none 0 0 23 2 [] ([] : List (List Int))] := hs.addNilM 23 2
  obtain rfl := Option.some.inj hm
  refine wpL_ret (ret_tmp2 rfl hf rfl rfl ?_)
  exact ⟨_, rfl, none, 0, 0, [], rfl, rfl, hs.sel [2] (by decide)⟩
 ·have hm := bif_f hm hb7
  refine wpL_skip <| wpL_seq <| wpL_region ?_
  refine sY hf hs rfl rfl rfl (Y_load_blkS rfl rfl (i := 0) rfl ag52 ti52 rfl) ?_; clear hf; intro a hf
  refine sY hf hs rfl rfl rfl (Y_load_blkS rfl rfl (i := 1) rfl ag54 ti54 rfl) ?_; clear hf; intro a hf
  refine sY hf hs rfl rfl rfl (Y_move rfl rfl) ?_; clear hf; intro a hf
  refine sY hf hs rfl rfl rfl (Y_move rfl rfl) ?_; clear hf; intro a hf
  obtain ⟨r9, hc10, hm⟩ := bind_some hm
  refine sCall hf rfl rfl rfl rfl (cap := []) rfl rfl en86 (impl_delayTable_ok F ad ae ad.Places.length ah rfl am ao am.Starts.length ap rfl aV bg aV.length bx rfl cP _ _ hc10 (aA.at hs) (aJ.at hs) (bQ.at hs)) ?_; clear hf
  rintro _ w ⟨A11, n12, c13, vs15, rfl, hn14, hs1⟩ a hf
  have hs : St _ W w [_, _, .mat A11 n12 c13 23 2 vs15 r9] := hs.join hs1
  clear hs1
  refine sY hf hs rfl rfl rfl (Y_assign rfl rfl) ?_; clear hf; intro a hf
  refine sY hf hs rfl rfl rfl (Y_assign rfl rfl) ?_; clear hf; intro a hf
  refine wpO_nil ?_
  obtain rfl := Option.some.inj hm
  refine wpL_ret (ret_tmp2 rfl hf rfl rfl ?_)
  exact ⟨_, rfl, A11, n12, c13, vs15, rfl, hn14, hs.sel [2] (by decide)⟩

set_option maxRecDepth 100000 in
theorem laws_sum_ok (F : Nat) (aN : List Int) (aL : Option Addr) (aT aU : Nat) (bl : aT = aN.length) (r : Int) (W : World) (hm : laws_sum F aN = some r) (bb : Rd W aL (ints aN)) :
  Calls Try.prog 38 [.slice aL aT aU].toArray W fun e w' => ∃ v, e = .returned v ∧ v = .int .i64 r ∧ St [] W w' [] := by
 subst bl
 unfold laws_sum at hm
 refine Calls.enter (N := 18) Try.func38 rfl rfl rfl (fun a hf => ?_)
 have hs := St.start W
 obtain ⟨w, hw_⟩ : ∃ w, w = W := ⟨W, rfl⟩
 clear hw_ w
 refine wpL_seq <| wpL_region ?_
 refine sY hf hs rfl rfl rfl (Y_assign rfl rfl) ?_; clear hf; intro a hf
 refine wpO_nil <| wpL_seq <| wpL_region ?_
 refine sY hf hs rfl rfl rfl (Y_assign rfl rfl) ?_; clear hf; intro a hf
 refine wpO_nil <| wpL_seq <| wpL_seq <| wpL_region ?_
 refine sY hf hs rfl rfl rfl (Y_assign rfl rfl) ?_; clear hf; intro a hf
 refine wpO_nil ?_
 obtain ⟨r15, hl16, hm⟩ := bind_some hm
 refine wpL_block (fun a w => ∃ x14 : Int, x14 = r15 ∧ Fr a 18 [(3, .int .i64 x14)] ∧ St [] W w []) ?_ ?_
 ·refine wpL_loop (fun n a w => ∃ x9 : Int, ∃ x10 : Int, laws_sum_L1 F aN n x9 x10 = some r15 ∧ Fr a 18 [(0, .slice aL aN.length aU), (3, .int .i64 x9), (4, .int .i64 x10)] ∧ St [] W w []) F ?_ ?_ ?_
  ·exact ⟨0, 0, hl16, (FrD.pick (FrD.pick (FrD.pick hf.none hf rfl) hf rfl) hf rfl), hs⟩
  ·rintro a w ⟨x9, x10, h0_, -, -⟩; simp [laws_sum_L1] at h0_
  ·rintro n18 a w ⟨x9, x10, hm17, hf, hs⟩
   rw [laws_sum_L1] at hm17
   refine wpL_seq <| wpL_seq <| wpL_region ?_
   refine sY hf hs rfl rfl rfl (Y_move rfl rfl) ?_; clear hf; intro a hf
   refine sY hf hs rfl rfl rfl (Y_move rfl rfl) ?_; clear hf; intro a hf
   refine sY hf hs rfl rfl rfl (Y_lenH rfl rfl el23 rfl) ?_; clear hf; intro a hf
   refine sY hf hs rfl rfl rfl (Y_lss rfl rfl rfl) ?_; clear hf; intro a hf
   refine wpO_nil ?_
   refine wpL_cond hf rfl (fun hb19 => ?_) (fun hb19 => ?_)
   ·have hm17 := bif_t hm17 hb19
    refine wpL_skip <| wpL_seq <| wpL_block0 <| wpL_region ?_
    refine sY hf hs rfl rfl rfl (Y_move rfl rfl) ?_; clear hf; intro a hf
    refine sY hf hs rfl rfl rfl (Y_move rfl rfl) ?_; clear hf; intro a hf
    refine sY hf hs rfl rfl rfl (Y_move rfl rfl) ?_; clear hf; intro a hf
    obtain ⟨q20, hi21, hm17⟩ := bind_some hm17
    obtain ⟨hi21a, hi21b, hi21q⟩ := idx_some hi21
    refine sY hf hs rfl rfl rfl (Y_index rfl rfl rfl el23 ti2 (Rd.isAt (bb.at hs) (at1 (ints_at hi21q))) hi21a hi21b) ?_; clear hf; intro a hf
    refine sY hf hs rfl rfl rfl (Y_load_rd rfl rfl (fun w hs => bb.at hs) (at1 (ints_at hi21q)) ag2) ?_; clear hf; intro a hf
    refine sY hf hs rfl rfl rfl (Y_add rfl rfl rfl) ?_; clear hf; intro a hf
    refine sY hf hs rfl rfl rfl (Y_assign rfl rfl) ?_; clear hf; intro a hf
    refine wpO_nil ?_
    refine wpL_nil (Qb_normal ?_)
    refine wpL_region ?_
    refine sY hf hs rfl rfl rfl (Y_move rfl rfl) ?_; clear hf; intro a hf
    refine sY hf hs rfl rfl rfl (Y_add rfl rfl rfl) ?_; clear hf; intro a hf
    refine sY hf hs rfl rfl rfl (Y_assign rfl rfl) ?_; clear hf; intro a hf
    refine wpO_nil ?_
    refine wpL_nil (Ql_normal ?_)
    exact ⟨(IntKind.i64.wrap (x9 + q20)), (IntKind.i64.wrap (x10 + 1)), hm17, (FrD.pick (FrD.pick (FrD.pick hf.none hf rfl) hf rfl) hf rfl), hs⟩
   ·have hm17 := bif_f hm17 hb19
    refine wpL_exit (Ql_exit (Qb_exit ?_))
    exact ⟨x9, Option.some.inj hm17, (FrD.pick hf.none hf rfl), hs⟩
 ·rintro a w ⟨x14, hr_, hf, hs⟩
  subst hr_
  try dsimp only at hm
  refine wpL_seq <| wpL_region ?_
  refine sY hf hs rfl rfl rfl (Y_move rfl rfl) ?_; clear hf; intro a hf
  refine sY hf hs rfl rfl rfl (Y_assign rfl rfl) ?_; clear hf; intro a hf
  refine wpO_nil ?_
  obtain rfl := Option.some.inj hm
  refine wpL_ret (ret_tmp rfl hf rfl ?_)
  exact ⟨_, rfl, rfl, hs⟩

set_option maxHeartbeats 2000000 in
set_option maxRecDepth 100000 in
theorem laws_FnFreeSlacks_ok (F : Nat) (p0 : List Int) (aq : Option Addr) (aP au : Nat) (bL : aP = p0.length) (r : Bool) (W : World) (hm : laws_FnFreeSlacks F p0 = some r) (aR : Rd W aq (bytes p0)) :
  Calls Try.prog 7 [.slice aq aP au].toArray W fun e w' => ∃ v, e = .returned v ∧ v = .bool r ∧ St [] W w' [] := by
 subst bL
 unfold laws_FnFreeSlacks at hm
 refine Calls.enter (N := 156) Try.func7 rfl rfl rfl (fun a hf => ?_)
 have hs := St.start W
 obtain ⟨w, hw_⟩ : ∃ w, w = W := ⟨W, rfl⟩
 clear hw_ w
 refine wpL_seq <| wpL_region ?_
 refine sY hf hs rfl rfl rfl (Y_assign rfl rfl) ?_; clear hf; intro a hf
 refine wpO_nil <| wpL_seq <| wpL_seq <| wpL_region ?_
 refine sY hf hs rfl rfl rfl (Y_move rfl rfl) ?_; clear hf; intro a hf
 obtain ⟨r1, hc2, hm⟩ := bind_some hm
 refine sCall hf rfl rfl rfl rfl (cap := []) rfl rfl en31 (laws_big_ok F p0 aq p0.length au rfl _ _ hc2 (aR.at hs)) ?_; clear hf
 rintro _ w ⟨rfl, hs1⟩ a hf
 have hs : St _ W w [] := hs.ext hs1.below
 clear hs1
 refine wpO_nil ?_
 refine wpL_cond hf rfl (fun hb3 => ?_) (fun hb3 => ?_)
 ·have hm := bif_t hm hb3
  refine wpL_seq <| wpL_region ?_
  refine sY hf hs rfl rfl rfl (Y_assign rfl rfl) ?_; clear hf; intro a hf
  refine wpO_nil ?_
  obtain rfl := Option.some.inj hm
  refine wpL_ret (ret_tmp rfl hf rfl ?_)
  exact ⟨_, rfl, rfl, hs⟩
 ·have hm := bif_f hm hb3
  refine wpL_skip <| wpL_seq <| wpL_region ?_
  refine sY hf hs rfl rfl rfl (Y_move rfl rfl) ?_; clear hf; intro a hf
  obtain ⟨r4, hc5, hm⟩ := bind_some hm
  refine sCall hf rfl rfl rfl rfl (cap := []) rfl rfl en39 (spec_DrawFreeSlack_ok F p0 aq p0.length au rfl _ _ hc5 (aR.at hs)) ?_; clear hf
  rintro _ w ⟨A6, n7, c8, A10, n11, c12, rfl, hn9, hn13, hs1⟩ a hf
  have hs : St _ W w [.row A6 n7 c8 112 4 ((recs GPlace.cells) r4.1.Places), .row A10 n11 c12 2 1 (ints r4.2.1.Starts)] := hs.join hs1
  clear hs1
  refine sY hf hs rfl rfl rfl (Y_move rfl rfl) ?_; clear hf; intro a hf
  refine sY hf hs rfl rfl rfl (Y_extract rfl rfl rfl) ?_; clear hf; intro a hf
  refine sY hf hs rfl rfl rfl (Y_extract rfl rfl rfl) ?_; clear hf; intro a hf
  refine sY hf hs rfl rfl rfl (Y_extract rfl rfl rfl) ?_; clear hf; intro a hf
  refine sAlloc hf hs rfl rfl rfl rfl ti52 ?_; clear hf hs; intro a w b14 hs hf
  have hs : St _ W w [_, _, .blk b14 52 [.int .i64 0, .slice none 0 0]] := hs
  refine sAlloc hf hs rfl rfl rfl rfl ti54 ?_; clear hf hs; intro a w b15 hs hf
  have hs : St _ W w [_, _, _, .blk b15 54 [.int .i64 0, .slice none 0 0]] := hs
  refine sStore (i := 2) (us := [.int .i64 r4.1.Events, .slice A6 n7 c8]) hf hs rfl rfl rfl rfl rfl rfl ti52 rfl rfl rfl (Nat.le_of_ble_eq_true rfl) rfl ?_; clear hs; intro w hs
  have hs : St _ W w [_, _, .blk b14 52 [.int .i64 r4.1.Events, .slice A6 n7 c8], _] := hs
  refine sStore (i := 3) (us := [.int .i64 r4.2.1.Period, .slice A10 n11 c12]) hf hs rfl rfl rfl rfl rfl rfl ti54 rfl rfl rfl (Nat.le_of_ble_eq_true rfl) rfl ?_; clear hs; intro w hs
  have hs : St _ W w [_, _, _, .blk b15 54 [.int .i64 r4.2.1.Period, .slice A10 n11 c12]] := hs
  refine sY hf hs rfl rfl rfl (Y_assign rfl rfl) ?_; clear hf; intro a hf
  refine wpO_nil <| wpL_seq <| wpL_region ?_
  refine sY hf hs rfl rfl rfl (Y_load_blkS rfl rfl (i := 2) rfl ag52 ti52 rfl) ?_; clear hf; intro a hf
  refine sY hf hs rfl rfl rfl (Y_load_blkS rfl rfl (i := 3) rfl ag54 ti54 rfl) ?_; clear hf; intro a hf
  refine sY hf hs rfl rfl rfl (Y_move rfl rfl) ?_; clear hf; intro a hf
  obtain ⟨r16, hc17, hm⟩ := bind_some hm
  refine sCall hf rfl rfl rfl rfl (cap := []) rfl rfl en40 (impl_FreeSlack_ok F (GEventGraph.mk r4.1.Events r4.1.Places) A6 n7 c8 hn9 (GTimetable.mk r4.2.1.Period r4.2.1.Starts) A10 n11 c12 hn13 r4.2.2 _ _ hc17 (hs.rd (i := 0) rfl) (hs.rd (i := 1) rfl)) ?_; clear hf
  rintro _ w ⟨rfl, hs1⟩ a hf
  have hs : St _ W w [_, _, _, _] := hs.ext hs1.below
  clear hs1
  refine sY hf hs rfl rfl rfl (Y_move rfl rfl) ?_; clear hf; intro a hf
  refine sY hf hs rfl rfl rfl (Y_extract rfl rfl rfl) ?_; clear hf; intro a hf
  refine sY hf hs rfl rfl rfl (Y_extract rfl rfl rfl) ?_; clear hf; intro a hf
  refine sY hf hs rfl rfl rfl (Y_assign rfl rfl) ?_; clear hf; intro a hf
  refine sY hf hs rfl rfl rfl (Y_assign rfl rfl) ?_; clear hf; intro a hf
  refine wpO_nil <| wpL_seq <| wpL_region ?_
  refine sY hf hs rfl rfl rfl (Y_load_blkS rfl rfl (i := 2) rfl ag52 ti52 rfl) ?_; clear hf; intro a hf
  refine sY hf hs rfl rfl rfl (Y_load_blkS rfl rfl (i := 3) rfl ag54 ti54 rfl) ?_; clear hf; intro a hf
  refine sY hf hs rfl rfl rfl (Y_move rfl rfl) ?_; clear hf; intro a hf
  obtain ⟨r18, hc19, hm⟩ := bind_some hm
  refine sCall hf rfl rfl rfl rfl (cap := []) rfl rfl en41 (spec_FreeSlack_ok F (GEventGraph.mk r4.1.Events r4.1.Places) A6 n7 c8 hn9 (GTimetable.mk r4.2.1.Period r4.2.1.Starts) A10 n11 c12 hn13 r4.2.2 _ _ hc19 (hs.rd (i := 0) rfl) (hs.rd (i := 1) rfl)) ?_; clear hf
  rintro _ w ⟨rfl, hs1⟩ a hf
  have hs : St _ W w [_, _, _, _] := hs.ext hs1.below
  clear hs1
  refine sY hf hs rfl rfl rfl (Y_move rfl rfl) ?_; clear hf; intro a hf
  refine sY hf hs rfl rfl rfl (Y_extract rfl rfl rfl) ?_; clear hf; intro a hf
  refine sY hf hs rfl rfl rfl (Y_extract rfl rfl rfl) ?_; clear hf; intro a hf
  refine sY hf hs rfl rfl rfl (Y_assign rfl rfl) ?_; clear hf; intro a hf
  refine sY hf hs rfl rfl rfl (Y_assign rfl rfl) ?_; clear hf; intro a hf
  refine wpO_nil <| wpL_seq <| wpL_region ?_
  refine sY hf hs rfl rfl rfl (Y_move rfl rfl) ?_; clear hf; intro a hf
  obtain ⟨r20, hc21, hm⟩ := bind_some hm
  refine sCall hf rfl rfl rfl rfl (cap := []) rfl rfl en42 (spec_DrawDelayedEvents_ok F p0 aq p0.length au rfl _ _ hc21 (aR.at hs)) ?_; clear hf
  rintro _ w ⟨A22, n23, c24, A26, n27, c28, rfl, hn25, hn29, hs1⟩ a hf
  have hs : St _ W w [_, _, _, _, .row A22 n23 c24 112 4 ((recs GPlace.cells) r20.1.Places), .row A26 n27 c28 2 1 (ints r20.2.1.Starts)] := hs.join hs1
  clear hs1
  refine sY hf hs rfl rfl rfl (Y_move rfl rfl) ?_; clear hf; intro a hf
  refine sY hf hs rfl rfl rfl (Y_extract rfl rfl rfl) ?_; clear hf; intro a hf
  refine sY hf hs rfl rfl rfl (Y_extract rfl rfl rfl) ?_; clear hf; intro a hf
  refine sY hf hs rfl rfl rfl (Y_extract rfl rfl rfl) ?_; clear hf; intro a hf
  refine sY hf hs rfl rfl rfl (Y_extract rfl rfl rfl) ?_; clear hf; intro a hf
  refine sAlloc hf hs rfl rfl rfl rfl ti52 ?_; clear hf hs; intro a w b30 hs hf
  have hs : St _ W w [_, _, _, _, _, _, .blk b30 52 [.int .i64 0, .slice none 0 0]] := hs
  refine sAlloc hf hs rfl rfl rfl rfl ti54 ?_; clear hf hs; intro a w b31 hs hf
  have hs : St _ W w [_, _, _, _, _, _, _, .blk b31 54 [.int .i64 0, .slice none 0 0]] := hs
  refine sStore (i := 6) (us := [.int .i64 r20.1.Events, .slice A22 n23 c24]) hf hs rfl rfl rfl rfl rfl rfl ti52 rfl rfl rfl (Nat.le_of_ble_eq_true rfl) rfl ?_; clear hs; intro w hs
  have hs : St _ W w [_, _, _, _, _, _, .blk b30 52 [.int .i64 r20.1.Events, .slice A22 n23 c24], _] := hs
  refine sStore (i := 7) (us := [.int .i64 r20.2.1.Period, .slice A26 n27 c28]) hf hs rfl rfl rfl rfl rfl rfl ti54 rfl rfl rfl (Nat.le_of_ble_eq_true rfl) rfl ?_; clear hs; intro w hs
  have hs : St _ W w [_, _, _, _, _, _, _, .blk b31 54 [.int .i64 r20.2.1.Period, .slice A26 n27 c28]] := hs
  refine sY hf hs rfl rfl rfl (Y_assign rfl rfl) ?_; clear hf; intro a hf
  refine sY hf hs rfl rfl rfl (Y_assign rfl rfl) ?_; clear hf; intro a hf
  refine wpO_nil <| wpL_seq <| wpL_region ?_
  refine sY hf hs rfl rfl rfl (Y_load_blkS rfl rfl (i := 6) rfl ag52 ti52 rfl) ?_; clear hf; intro a hf
  refine sY hf hs rfl rfl rfl (Y_load_blkS rfl rfl (i := 7) rfl ag54 ti54 rfl) ?_; clear hf; intro a hf
  refine sY hf hs rfl rfl rfl (Y_move rfl rfl) ?_; clear hf; intro a hf
  refine sY hf hs rfl rfl rfl (Y_move rfl rfl) ?_; clear hf; intro a hf
  obtain ⟨r32, hc33, hm⟩ := bind_some hm
  refine sCall hf rfl rfl rfl rfl (cap := []) rfl rfl en43 (impl_DelayedEvents_ok F (GEventGraph.mk r20.1.Events r20.1.Places) A22 n23 c24 hn25 (GTimetable.mk r20.2.1.Period r20.2.1.Starts) A26 n27 c28 hn29 r20.2.2.1 r20.2.2.2 _ _ hc33 (hs.rd (i := 4) rfl) (hs.rd (i := 5) rfl)) ?_; clear hf
  rintro _ w ⟨A34, n35, c36, rfl, hn37, hs1⟩ a hf
  have hs : St _ W w [_, _, _, _, _, _, _, _, .row A34 n35 c36 2 1 (ints r32.1)] := hs.join hs1
  clear hs1
  refine sY hf hs rfl rfl rfl (Y_move rfl rfl) ?_; clear hf; intro a hf
  refine sY hf hs rfl rfl rfl (Y_extract rfl rfl rfl) ?_; clear hf; intro a hf
  refine sY hf hs rfl rfl rfl (Y_extract rfl rfl rfl) ?_; clear hf; intro a hf
  refine sY hf hs rfl rfl rfl (Y_assign rfl rfl) ?_; clear hf; intro a hf
  refine sY hf hs rfl rfl rfl (Y_assign rfl rfl) ?_; clear hf; intro a hf
  refine wpO_nil <| wpL_seq <| wpL_region ?_
  refine sY hf hs rfl rfl rfl (Y_load_blkS rfl rfl (i := 6) rfl ag52 ti52 rfl) ?_; clear hf; intro a hf
  refine sY hf hs rfl rfl rfl (Y_load_blkS rfl rfl (i := 7) rfl ag54 ti54 rfl) ?_; clear hf; intro a hf
  refine sY hf hs rfl rfl rfl (Y_move rfl rfl) ?_; clear hf; intro a hf
  refine sY hf hs rfl rfl rfl (Y_move rfl rfl) ?_; clear hf; intro a hf
  obtain ⟨r38, hc39, hm⟩ := bind_some hm
  refine sCall hf rfl rfl rfl rfl (cap := []) rfl rfl en44 (spec_DelayedEvents_ok F (GEventGraph.mk r20.1.Events r20.1.Places) A22 n23 c24 hn25 (GTimetable.mk r20.2.1.Period r20.2.1.Starts) A26 n27 c28 hn29 r20.2.2.1 r20.2.2.2 _ _ hc39 (hs.rd (i := 4) rfl) (hs.rd (i := 5) rfl)) ?_; clear hf
  rintro _ w ⟨A40, n41, c42, rfl, hn43, hs1⟩ a hf
  have hs : St _ W w [_, _, _, _, _, _, _, _, _, .row A40 n41 c42 2 1 (ints r38.1)] := hs.join hs1
  clear hs1
  refine sY hf hs rfl rfl rfl (Y_move rfl rfl) ?_; clear hf; intro a hf
  refine sY hf hs rfl rfl rfl (Y_extract rfl rfl rfl) ?_; clear hf; intro a hf
  refine sY hf hs rfl rfl rfl (Y_extract rfl rfl rfl) ?_; clear hf; intro a hf
  refine sY hf hs rfl rfl rfl (Y_assign rfl rfl) ?_; clear hf; intro a hf
  refine sY hf hs rfl rfl rfl (Y_assign rfl rfl) ?_; clear hf; intro a hf
  refine wpO_nil <| wpL_seq <| wpL_seq ?_
  obtain ⟨r55, hj56, hm⟩ := bind_some hm
  refine wpL_cut (fun a w => ∃ b54 : Bool, b54 = r55 ∧ Fr a 156 [(3, .pointer (some ⟨b14, 0, none⟩)), (4, .pointer (some ⟨b15, 0, none⟩)), (5, .int .i64 r4.2.2), (6, .int .i64 r16.1), (7, .int .i64 r16.2), (101, .bool b54)] ∧ St [] W w [.blk b14 52 [.int .i64 r4.1.Events, .slice A6 n7 c8], .row A6 n7 c8 112 4 ((recs GPlace.cells) r4.1.Places), .blk b15 54 [.int .i64 r4.2.1.Period, .slice A10 n11 c12], .row A10 n11 c12 2 1 (ints r4.2.1.Starts)]) ?_ ?_
  ·refine wpL_region ?_
   refine sY hf hs rfl rfl rfl (Y_move rfl rfl) ?_; clear hf; intro a hf
   refine sY hf hs rfl rfl rfl (Y_move rfl rfl) ?_; clear hf; intro a hf
   refine sY hf hs rfl rfl rfl (Y_neq rfl rfl rfl) ?_; clear hf; intro a hf
   refine sY hf hs rfl rfl rfl (Y_move rfl rfl) ?_; clear hf; intro a hf
   refine bsplit (r16.2 != r18.2) (fun hb57 => ?_) (fun hb57 => ?_)
   ·have hj56 := bif_t hj56 hb57
    refine sNo hf rfl rfl rfl (congrArg (fun b => some (Value.bool b)) hb57) rfl rfl rfl ?_; clear hf; intro a hf
    refine sNo hf rfl rfl rfl (congrArg (fun b => some (Value.bool b)) hb57) rfl rfl rfl ?_; clear hf; intro a hf
    refine sNo hf rfl rfl rfl (congrArg (fun b => some (Value.bool b)) hb57) rfl rfl rfl ?_; clear hf; intro a hf
    refine sY hf hs rfl rfl rfl (Y_pickT rfl (congrArg (fun b => some (Value.bool b)) hb57) rfl) ?_; clear hf; intro a hf
    refine sY hf hs rfl rfl rfl (Y_move rfl rfl) ?_; clear hf; intro a hf
    refine sNo hf rfl rfl rfl rfl rfl rfl rfl ?_; clear hf; intro a hf
    refine sNo hf rfl rfl rfl rfl rfl rfl rfl ?_; clear hf; intro a hf
    refine sNo hf rfl rfl rfl rfl rfl rfl rfl ?_; clear hf; intro a hf
    refine sY hf hs rfl rfl rfl (Y_pickT rfl rfl rfl) ?_; clear hf; intro a hf
    refine sY hf hs rfl rfl rfl (Y_move rfl rfl) ?_; clear hf; intro a hf
    refine sNo hf rfl rfl rfl rfl rfl rfl rfl ?_; clear hf; intro a hf
    refine sNo hf rfl rfl rfl rfl rfl rfl rfl ?_; clear hf; intro a hf
    refine sNo hf rfl rfl rfl rfl rfl rfl rfl ?_; clear hf; intro a hf
    refine sNo hf rfl rfl rfl rfl rfl rfl rfl ?_; clear hf; intro a hf
    refine sY hf hs rfl rfl rfl (Y_pickT rfl rfl rfl) ?_; clear hf; intro a hf
    refine sY hf hs rfl rfl rfl (Y_move rfl rfl) ?_; clear hf; intro a hf
    refine sNo hf rfl rfl rfl rfl rfl rfl rfl ?_; clear hf; intro a hf
    refine sNo hf rfl rfl rfl rfl rfl rfl rfl ?_; clear hf; intro a hf
    refine sNo hf rfl rfl rfl rfl rfl rfl rfl ?_; clear hf; intro a hf
    refine sNoU hf rfl rfl rfl rfl rfl rfl rfl ?_; clear hf; intro a hf
    refine sNoU hf rfl rfl rfl rfl rfl rfl rfl ?_; clear hf; intro a hf
    refine sNo hf rfl rfl rfl rfl rfl rfl rfl ?_; clear hf; intro a hf
    refine sNo hf rfl rfl rfl rfl rfl rfl rfl ?_; clear hf; intro a hf
    refine sNoU hf rfl rfl rfl rfl rfl rfl rfl ?_; clear hf; intro a hf
    refine sNoU hf rfl rfl rfl rfl rfl rfl rfl ?_; clear hf; intro a hf
    refine sNoU hf rfl rfl rfl rfl rfl rfl rfl ?_; clear hf; intro a hf
    refine sNoU hf rfl rfl rfl rfl rfl rfl rfl ?_; clear hf; intro a hf
    refine sNo hf rfl rfl rfl rfl rfl rfl rfl ?_; clear hf; intro a hf
    refine sY hf hs rfl rfl rfl (Y_pickT rfl rfl rfl) ?_; clear hf; intro a hf
    refine wpO_nil ?_
    refine wpL_nil (then_normal ?_)
    exact ⟨true, Option.some.inj hj56, (FrD.pick (FrD.pick (FrD.pick (FrD.pick (FrD.pick (FrD.pick hf.none hf rfl) hf rfl) hf rfl) hf rfl) hf rfl) hf rfl), hs.sel [2, 0, 3, 1] (by decide)⟩
   ·have hj56 := bif_f hj56 hb57
    refine sYg hf hs rfl rfl rfl (congrArg (fun b => some (Value.bool b)) hb57) rfl rfl rfl (Y_move rfl rfl) ?_; clear hf; intro a hf
    refine sYg hf hs rfl rfl rfl (congrArg (fun b => some (Value.bool b)) hb57) rfl rfl rfl (Y_move rfl rfl) ?_; clear hf; intro a hf
    refine sYg hf hs rfl rfl rfl (congrArg (fun b => some (Value.bool b)) hb57) rfl rfl rfl (Y_neq rfl rfl rfl) ?_; clear hf; intro a hf
    refine sY hf hs rfl rfl rfl (Y_pickF rfl (congrArg (fun b => some (Value.bool b)) hb57) rfl) ?_; clear hf; intro a hf
    refine sY hf hs rfl rfl rfl (Y_move rfl rfl) ?_; clear hf; intro a hf
    refine bsplit (r16.1 != r18.1) (fun hb58 => ?_) (fun hb58 => ?_)
    ·have hj56 := bif_t hj56 hb58
     refine sNo hf rfl rfl rfl (congrArg (fun b => some (Value.bool b)) hb58) rfl rfl rfl ?_; clear hf; intro a hf
     refine sNo hf rfl rfl rfl (congrArg (fun b => some (Value.bool b)) hb58) rfl rfl rfl ?_; clear hf; intro a hf
     refine sNo hf rfl rfl rfl (congrArg (fun b => some (Value.bool b)) hb58) rfl rfl rfl ?_; clear hf; intro a hf
     refine sY hf hs rfl rfl rfl (Y_pickT rfl (congrArg (fun b => some (Value.bool b)) hb58) rfl) ?_; clear hf; intro a hf
     refine sY hf hs rfl rfl rfl (Y_move rfl rfl) ?_; clear hf; intro a hf
     refine sNo hf rfl rfl rfl rfl rfl rfl rfl ?_; clear hf; intro a hf
     refine sNo hf rfl rfl rfl rfl rfl rfl rfl ?_; clear hf; intro a hf
     refine sNo hf rfl rfl rfl rfl rfl rfl rfl ?_; clear hf; intro a hf
     refine sNo hf rfl rfl rfl rfl rfl rfl rfl ?_; clear hf; intro a hf
     refine sY hf hs rfl rfl rfl (Y_pickT rfl rfl rfl) ?_; clear hf; intro a hf
     refine sY hf hs rfl rfl rfl (Y_move rfl rfl) ?_; clear hf; intro a hf
     refine sNo hf rfl rfl rfl rfl rfl rfl rfl ?_; clear hf; intro a hf
     refine sNo hf rfl rfl rfl rfl rfl rfl rfl ?_; clear hf; intro a hf
     refine sNo hf rfl rfl rfl rfl rfl rfl rfl ?_; clear hf; intro a hf
     refine sNoU hf rfl rfl rfl rfl rfl rfl rfl ?_; clear hf; intro a hf
     refine sNoU hf rfl rfl rfl rfl rfl rfl rfl ?_; clear hf; intro a hf
     refine sNo hf rfl rfl rfl rfl rfl rfl rfl ?_; clear hf; intro a hf
     refine sNo hf rfl rfl rfl rfl rfl rfl rfl ?_; clear hf; intro a hf
     refine sNoU hf rfl rfl rfl rfl rfl rfl rfl ?_; clear hf; intro a hf
     refine sNoU hf rfl rfl rfl rfl rfl rfl rfl ?_; clear hf; intro a hf
     refine sNoU hf rfl rfl rfl rfl rfl rfl rfl ?_; clear hf; intro a hf
     refine sNoU hf rfl rfl rfl rfl rfl rfl rfl ?_; clear hf; intro a hf
     refine sNo hf rfl rfl rfl rfl rfl rfl rfl ?_; clear hf; intro a hf
     refine sY hf hs rfl rfl rfl (Y_pickT rfl rfl rfl) ?_; clear hf; intro a hf
     refine wpO_nil ?_
     refine wpL_nil (then_normal ?_)
     exact ⟨true, Option.some.inj hj56, (FrD.pick (FrD.pick (FrD.pick (FrD.pick (FrD.pick (FrD.pick hf.none hf rfl) hf rfl) hf rfl) hf rfl) hf rfl) hf rfl), hs.sel [2, 0, 3, 1] (by decide)⟩
    ·have hj56 := bif_f hj56 hb58
     refine sYg hf hs rfl rfl rfl (congrArg (fun b => some (Value.bool b)) hb58) rfl rfl rfl (Y_move rfl rfl) ?_; clear hf; intro a hf
     refine sYg hf hs rfl rfl rfl (congrArg (fun b => some (Value.bool b)) hb58) rfl rfl rfl (Y_move rfl rfl) ?_; clear hf; intro a hf
     refine sYg hf hs rfl rfl rfl (congrArg (fun b => some (Value.bool b)) hb58) rfl rfl rfl (Y_neq rfl rfl rfl) ?_; clear hf; intro a hf
     refine sY hf hs rfl rfl rfl (Y_pickF rfl (congrArg (fun b => some (Value.bool b)) hb58) rfl) ?_; clear hf; intro a hf
     refine sY hf hs rfl rfl rfl (Y_move rfl rfl) ?_; clear hf; intro a hf
     refine bsplit (r32.2 != r38.2) (fun hb59 => ?_) (fun hb59 => ?_)
     ·have hj56 := bif_t hj56 hb59
      refine sNo hf rfl rfl rfl (congrArg (fun b => some (Value.bool b)) hb59) rfl rfl rfl ?_; clear hf; intro a hf
      refine sNo hf rfl rfl rfl (congrArg (fun b => some (Value.bool b)) hb59) rfl rfl rfl ?_; clear hf; intro a hf
      refine sNo hf rfl rfl rfl (congrArg (fun b => some (Value.bool b)) hb59) rfl rfl rfl ?_; clear hf; intro a hf
      refine sNo hf rfl rfl rfl (congrArg (fun b => some (Value.bool b)) hb59) rfl rfl rfl ?_; clear hf; intro a hf
      refine sY hf hs rfl rfl rfl (Y_pickT rfl (congrArg (fun b => some (Value.bool b)) hb59) rfl) ?_; clear hf; intro a hf
      refine sY hf hs rfl rfl rfl (Y_move rfl rfl) ?_; clear hf; intro a hf
      refine sNo hf rfl rfl rfl rfl rfl rfl rfl ?_; clear hf; intro a hf
      refine sNo hf rfl rfl rfl rfl rfl rfl rfl ?_; clear hf; intro a hf
      refine sNo hf rfl rfl rfl rfl rfl rfl rfl ?_; clear hf; intro a hf
      refine sNoU hf rfl rfl rfl rfl rfl rfl rfl ?_; clear hf; intro a hf
      refine sNoU hf rfl rfl rfl rfl rfl rfl rfl ?_; clear hf; intro a hf
      refine sNo hf rfl rfl rfl rfl rfl rfl rfl ?_; clear hf; intro a hf
      refine sNo hf rfl rfl rfl rfl rfl rfl rfl ?_; clear hf; intro a hf
      refine sNoU hf rfl rfl rfl rfl rfl rfl rfl ?_; clear hf; intro a hf
      refine sNoU hf rfl rfl rfl rfl rfl rfl rfl ?_; clear hf; intro a hf
      refine sNoU hf rfl rfl rfl rfl rfl rfl rfl ?_; clear hf; intro a hf
      refine sNoU hf rfl rfl rfl rfl rfl rfl rfl ?_; clear hf; intro a hf
      refine sNo hf rfl rfl rfl rfl rfl rfl rfl ?_; clear hf; intro a hf
      refine sY hf hs rfl rfl rfl (Y_pickT rfl rfl rfl) ?_; clear hf; intro a hf
      refine wpO_nil ?_
      refine wpL_nil (then_normal ?_)
      exact ⟨true, Option.some.inj hj56, (FrD.pick (FrD.pick (FrD.pick (FrD.pick (FrD.pick (FrD.pick hf.none hf rfl) hf rfl) hf rfl) hf rfl) hf rfl) hf rfl), hs.sel [2, 0, 3, 1] (by decide)⟩
     ·have hj56 := bif_f hj56 hb59
      refine sYg hf hs rfl rfl rfl (congrArg (fun b => some (Value.bool b)) hb59) rfl rfl rfl (Y_move rfl rfl) ?_; clear hf; intro a hf
      refine sYg hf hs rfl rfl rfl (congrArg (fun b => some (Value.bool b)) hb59) rfl rfl rfl (Y_move rfl rfl) ?_; clear hf; intro a hf
      obtain ⟨r60, hc61, hj56⟩ := bind_some hj56
      refine sCallg hf rfl rfl rfl (congrArg (fun b => some (Value.bool b)) hb59) rfl rfl rfl rfl (cap := []) rfl rfl en45 (laws_likeInts_ok F r32.1 A34 n35 c36 hn37 r38.1 A40 n41 c42 hn43 _ _ hc61 (hs.rd (i := 8) rfl) (hs.rd (i := 9) rfl)) ?_; clear hf
      rintro _ w ⟨rfl, hs1⟩ a hf
      have hs : St _ W w [_, _, _, _, _, _, _, _, _, _] := hs.ext hs1.below
      clear hs1
      refine sYg hf hs rfl rfl rfl (congrArg (fun b => some (Value.bool b)) hb59) rfl rfl rfl (Y_not rfl rfl) ?_; clear hf; intro a hf
      refine sY hf hs rfl rfl rfl (Y_pickF rfl (congrArg (fun b => some (Value.bool b)) hb59) rfl) ?_; clear hf; intro a hf
      refine sY hf hs rfl rfl rfl (Y_move rfl rfl) ?_; clear hf; intro a hf
      refine bsplit (!r60) (fun hb62 => ?_) (fun hb62 => ?_)
      ·have hj56 := bif_t hj56 hb62
       refine sNo hf rfl rfl rfl (congrArg (fun b => some (Value.bool b)) hb62) rfl rfl rfl ?_; clear hf; intro a hf
       refine sNo hf rfl rfl rfl (congrArg (fun b => some (Value.bool b)) hb62) rfl rfl rfl ?_; clear hf; intro a hf
       refine sNo hf rfl rfl rfl (congrArg (fun b => some (Value.bool b)) hb62) rfl rfl rfl ?_; clear hf; intro a hf
       refine sNoU hf rfl rfl rfl rfl rfl rfl rfl ?_; clear hf; intro a hf
       refine sNoU hf rfl rfl rfl rfl rfl rfl rfl ?_; clear hf; intro a hf
       refine sNo hf rfl rfl rfl (congrArg (fun b => some (Value.bool b)) hb62) rfl rfl rfl ?_; clear hf; intro a hf
       refine sNo hf rfl rfl rfl (congrArg (fun b => some (Value.bool b)) hb62) rfl rfl rfl ?_; clear hf; intro a hf
       refine sNoU hf rfl rfl rfl rfl rfl rfl rfl ?_; clear hf; intro a hf
       refine sNoU hf rfl rfl rfl rfl rfl rfl rfl ?_; clear hf; intro a hf
       refine sNoU hf rfl rfl rfl rfl rfl rfl rfl ?_; clear hf; intro a hf
       refine sNoU hf rfl rfl rfl rfl rfl rfl rfl ?_; clear hf; intro a hf
       refine sNo hf rfl rfl rfl (congrArg (fun b => some (Value.bool b)) hb62) rfl rfl rfl ?_; clear hf; intro a hf
       refine sY hf hs rfl rfl rfl (Y_pickT rfl (congrArg (fun b => some (Value.bool b)) hb62) rfl) ?_; clear hf; intro a hf
       refine wpO_nil ?_
       refine wpL_nil (then_normal ?_)
       exact ⟨true, Option.some.inj hj56, (FrD.pick (FrD.pick (FrD.pick (FrD.pick (FrD.pick (FrD.pick hf.none hf rfl) hf rfl) hf rfl) hf rfl) hf rfl) hf rfl), hs.sel [2, 0, 3, 1] (by decide)⟩
      ·have hj56 := bif_f hj56 hb62
       refine sYg hf hs rfl rfl rfl (congrArg (fun b => some (Value.bool b)) hb62) rfl rfl rfl (Y_move rfl rfl) ?_; clear hf; intro a hf
       refine sYg hf hs rfl rfl rfl (congrArg (fun b => some (Value.bool b)) hb62) rfl rfl rfl (Y_eql rfl rfl rfl) ?_; clear hf; intro a hf
       refine sYg hf hs rfl rfl rfl (congrArg (fun b => some (Value.bool b)) hb62) rfl rfl rfl (Y_move rfl rfl) ?_; clear hf; intro a hf
       refine bsplit (r32.2 == 0) (fun hb63 => ?_) (fun hb63 => ?_)
       ·have hj56 := bif_t hj56 hb63
        refine sYg hf hs rfl rfl rfl (congrArg (fun b => some (Value.bool b)) hb63) rfl rfl rfl (Y_move rfl rfl) ?_; clear hf; intro a hf
        refine sYg hf hs rfl rfl rfl (congrArg (fun b => some (Value.bool b)) hb63) rfl rfl rfl (Y_gtr rfl rfl rfl) ?_; clear hf; intro a hf
        refine sYg hf hs rfl rfl rfl (congrArg (fun b => some (Value.bool b)) hb62) rfl rfl rfl (Y_pickT rfl (congrArg (fun b => some (Value.bool b)) hb63) rfl) ?_; clear hf; intro a hf
        refine sYg hf hs rfl rfl rfl (congrArg (fun b => some (Value.bool b)) hb62) rfl rfl rfl (Y_move rfl rfl) ?_; clear hf; intro a hf
        refine bsplit (decide (0 < r20.2.2.2)) (fun hb64 => ?_) (fun hb64 => ?_)
        ·have hj56 := bif_t hj56 hb64
         refine sYg hf hs rfl rfl rfl (congrArg (fun b => some (Value.bool b)) hb64) rfl rfl rfl (Y_move rfl rfl) ?_; clear hf; intro a hf
         refine sYg hf hs rfl rfl rfl (congrArg (fun b => some (Value.bool b)) hb64) rfl rfl rfl (Y_move rfl rfl) ?_; clear hf; intro a hf
         obtain ⟨r65, hc66, hj56⟩ := bind_some hj56
         refine sCallg hf rfl rfl rfl (congrArg (fun b => some (Value.bool b)) hb64) rfl rfl rfl rfl (cap := []) rfl rfl en46 (laws_hasInt_ok F r32.1 A34 n35 c36 hn37 r20.2.2.1 _ _ hc66 (hs.rd (i := 8) rfl)) ?_; clear hf
         rintro _ w ⟨rfl, hs1⟩ a hf
         have hs : St _ W w [_, _, _, _, _, _, _, _, _, _] := hs.ext hs1.below
         clear hs1
         refine sYg hf hs rfl rfl rfl (congrArg (fun b => some (Value.bool b)) hb64) rfl rfl rfl (Y_not rfl rfl) ?_; clear hf; intro a hf
         refine sYg hf hs rfl rfl rfl (congrArg (fun b => some (Value.bool b)) hb62) rfl rfl rfl (Y_pickT rfl (congrArg (fun b => some (Value.bool b)) hb64) rfl) ?_; clear hf; intro a hf
         refine sY hf hs rfl rfl rfl (Y_pickF rfl (congrArg (fun b => some (Value.bool b)) hb62) rfl) ?_; clear hf; intro a hf
         refine wpO_nil ?_
         refine wpL_nil (then_normal ?_)
         exact ⟨(!r65), Option.some.inj hj56, (FrD.pick (FrD.pick (FrD.pick (FrD.pick (FrD.pick (FrD.pick hf.none hf rfl) hf rfl) hf rfl) hf rfl) hf rfl) hf rfl), hs.sel [2, 0, 3, 1] (by decide)⟩
        ·have hj56 := bif_f hj56 hb64
         refine sNo hf rfl rfl rfl (congrArg (fun b => some (Value.bool b)) hb64) rfl rfl rfl ?_; clear hf; intro a hf
         refine sNo hf rfl rfl rfl (congrArg (fun b => some (Value.bool b)) hb64) rfl rfl rfl ?_; clear hf; intro a hf
         refine sNo hf rfl rfl rfl (congrArg (fun b => some (Value.bool b)) hb64) rfl rfl rfl ?_; clear hf; intro a hf
         refine sNo hf rfl rfl rfl (congrArg (fun b => some (Value.bool b)) hb64) rfl rfl rfl ?_; clear hf; intro a hf
         refine sYg hf hs rfl rfl rfl (congrArg (fun b => some (Value.bool b)) hb62) rfl rfl rfl (Y_pickF rfl (congrArg (fun b => some (Value.bool b)) hb64) rfl) ?_; clear hf; intro a hf
         refine sY hf hs rfl rfl rfl (Y_pickF rfl (congrArg (fun b => some (Value.bool b)) hb62) rfl) ?_; clear hf; intro a hf
         refine wpO_nil ?_
         refine wpL_nil (then_normal ?_)
         exact ⟨false, Option.some.inj hj56, (FrD.pick (FrD.pick (FrD.pick (FrD.pick (FrD.pick (FrD.pick hf.none hf rfl) hf rfl) hf rfl) hf rfl) hf rfl) hf rfl), hs.sel [2, 0, 3, 1] (by decide)⟩
       ·have hj56 := bif_f hj56 hb63
        refine sNo hf rfl rfl rfl (congrArg (fun b => some (Value.bool b)) hb63) rfl rfl rfl ?_; clear hf; intro a hf
        refine sNo hf rfl rfl rfl (congrArg (fun b => some (Value.bool b)) hb63) rfl rfl rfl ?_; clear hf; intro a hf
        refine sYg hf hs rfl rfl rfl (congrArg (fun b => some (Value.bool b)) hb62) rfl rfl rfl (Y_pickF rfl (congrArg (fun b => some (Value.bool b)) hb63) rfl) ?_; clear hf; intro a hf
        refine sYg hf hs rfl rfl rfl (congrArg (fun b => some (Value.bool b)) hb62) rfl rfl rfl (Y_move rfl rfl) ?_; clear hf; intro a hf
        refine sNo hf rfl rfl rfl rfl rfl rfl rfl ?_; clear hf; intro a hf
        refine sNo hf rfl rfl rfl rfl rfl rfl rfl ?_; clear hf; intro a hf
        refine sNo hf rfl rfl rfl rfl rfl rfl rfl ?_; clear hf; intro a hf
        refine sNo hf rfl rfl rfl rfl rfl rfl rfl ?_; clear hf; intro a hf
        refine sYg hf hs rfl rfl rfl (congrArg (fun b => some (Value.bool b)) hb62) rfl rfl rfl (Y_pickF rfl rfl rfl) ?_; clear hf; intro a hf
        refine sY hf hs rfl rfl rfl (Y_pickF rfl (congrArg (fun b => some (Value.bool b)) hb62) rfl) ?_; clear hf; intro a hf
        refine wpO_nil ?_
        refine wpL_nil (then_normal ?_)
        exact ⟨false, Option.some.inj hj56, (FrD.pick (FrD.pick (FrD.pick (FrD.pick (FrD.pick (FrD.pick hf.none hf rfl) hf rfl) hf rfl) hf rfl) hf rfl) hf rfl), hs.sel [2, 0, 3, 1] (by decide)⟩
  ·rintro a w ⟨b54, hr_, hf, hs⟩
   subst hr_
   try dsimp only at hm
   refine wpL_cond hf rfl (fun hb67 => ?_) (fun hb67 => ?_)
   ·have hm := bif_t hm hb67
    refine wpL_seq <| wpL_region ?_
    refine sY hf hs rfl rfl rfl (Y_assign rfl rfl) ?_; clear hf; intro a hf
    refine wpO_nil ?_
    obtain rfl := Option.some.inj hm
    refine wpL_ret (ret_tmp rfl hf rfl ?_)
    exact ⟨_, rfl, rfl, hs.sel [] (by decide)⟩
   ·have hm := bif_f hm hb67
    refine wpL_skip <| wpL_seq <| wpL_seq ?_
    obtain ⟨r70, hj71, hm⟩ := bind_some hm
    refine wpL_cut (fun a w => ∃ b69 : Bool, b69 = r70 ∧ Fr a 156 [(3, .pointer (some ⟨b14, 0, none⟩)), (4, .pointer (some ⟨b15, 0, none⟩)), (5, .int .i64 r4.2.2), (6, .int .i64 r16.1), (107, .bool b69)] ∧ St [] W w [.blk b14 52 [.int .i64 r4.1.Events, .slice A6 n7 c8], .row A6 n7 c8 112 4 ((recs GPlace.cells) r4.1.Places), .blk b15 54 [.int .i64 r4.2.1.Period, .slice A10 n11 c12], .row A10 n11 c12 2 1 (ints r4.2.1.Starts)]) ?_ ?_
    ·refine wpL_region ?_
     refine sY hf hs rfl rfl rfl (Y_move rfl rfl) ?_; clear hf; intro a hf
     refine sY hf hs rfl rfl rfl (Y_neq rfl rfl rfl) ?_; clear hf; intro a hf
     refine sY hf hs rfl rfl rfl (Y_move rfl rfl) ?_; clear hf; intro a hf
     refine bsplit (r16.2 != 0) (fun hb72 => ?_) (fun hb72 => ?_)
     ·have hj71 := bif_t hj71 hb72
      refine sNo hf rfl rfl rfl (congrArg (fun b => some (Value.bool b)) hb72) rfl rfl rfl ?_; clear hf; intro a hf
      refine sNo hf rfl rfl rfl (congrArg (fun b => some (Value.bool b)) hb72) rfl rfl rfl ?_; clear hf; intro a hf
      refine sY hf hs rfl rfl rfl (Y_pickT rfl (congrArg (fun b => some (Value.bool b)) hb72) rfl) ?_; clear hf; intro a hf
      refine wpO_nil ?_
      refine wpL_nil (then_normal ?_)
      exact ⟨true, Option.some.inj hj71, (FrD.pick (FrD.pick (FrD.pick (FrD.pick (FrD.pick hf.none hf rfl) hf rfl) hf rfl) hf rfl) hf rfl), hs⟩
     ·have hj71 := bif_f hj71 hb72
      refine sYg hf hs rfl rfl rfl (congrArg (fun b => some (Value.bool b)) hb72) rfl rfl rfl (Y_move rfl rfl) ?_; clear hf; intro a hf
      refine sYg hf hs rfl rfl rfl (congrArg (fun b => some (Value.bool b)) hb72) rfl rfl rfl (Y_eql rfl rfl rfl) ?_; clear hf; intro a hf
      refine sY hf hs rfl rfl rfl (Y_pickF rfl (congrArg (fun b => some (Value.bool b)) hb72) rfl) ?_; clear hf; intro a hf
      refine wpO_nil ?_
      refine wpL_nil (then_normal ?_)
      exact ⟨(r16.1 == 1000000), Option.some.inj hj71, (FrD.pick (FrD.pick (FrD.pick (FrD.pick (FrD.pick hf.none hf rfl) hf rfl) hf rfl) hf rfl) hf rfl), hs⟩
    ·rintro a w ⟨b69, hr_, hf, hs⟩
     subst hr_
     try dsimp only at hm
     refine wpL_cond hf rfl (fun hb73 => ?_) (fun hb73 => ?_)
     ·have hm := bif_t hm hb73
      refine wpL_seq <| wpL_region ?_
      refine sY hf hs rfl rfl rfl (Y_assign rfl rfl) ?_; clear hf; intro a hf
      refine wpO_nil ?_
      obtain rfl := Option.some.inj hm
      refine wpL_ret (ret_tmp rfl hf rfl ?_)
      exact ⟨_, rfl, rfl, hs.sel [] (by decide)⟩
     ·have hm := bif_f hm hb73
      refine wpL_skip <| wpL_seq <| wpL_region ?_
      refine sY hf hs rfl rfl rfl (Y_fieldAddr rfl rfl fo52_0) ?_; clear hf; intro a hf
      refine sY hf hs rfl rfl rfl (Y_load_blk rfl rfl (i := 0) rfl rfl ag2) ?_; clear hf; intro a hf
      obtain ⟨xs76, hk75, hm⟩ := bind_some hm
      refine sMakeL (enc := ints) hf hs rfl rfl rfl rfl rfl hk75 el23 ti2 rfl ints_made ?_; clear hf hs; intro a w A74 hs hf
      have hs : St _ W w [_, _, _, _, .row A74 xs76.length xs76.length 2 1 (ints xs76)] := hs
      refine sY hf hs rfl rfl rfl (Y_assign rfl rfl) ?_; clear hf; intro a hf
      refine wpO_nil <| wpL_seq <| wpL_seq <| wpL_region ?_
      refine sY hf hs rfl rfl rfl (Y_assign rfl rfl) ?_; clear hf; intro a hf
      refine wpO_nil ?_
      obtain ⟨r263, hl264, hm⟩ := bind_some hm
      refine wpL_block (fun a w => Sum.inr () = r263 ∧ Fr a 156 [] ∧ St [] W w []) ?_ ?_
      ·refine wpL_loop (fun n a w => ∃ xs200 : List Int, ∃ x202 : Int, laws_FnFreeSlacks_L4 F r4 r16 n xs200 x202 = some r263 ∧ xs76.length = xs200.length ∧ Fr a 156 [(3, .pointer (some ⟨b14, 0, none⟩)), (4, .pointer (some ⟨b15, 0, none⟩)), (5, .int .i64 r4.2.2), (6, .int .i64 r16.1), (18, .slice A74 xs76.length xs76.length), (19, .int .i64 x202)] ∧ St [] W w [.blk b14 52 [.int .i64 r4.1.Events, .slice A6 n7 c8], .row A6 n7 c8 112 4 ((recs GPlace.cells) r4.1.Places), .blk b15 54 [.int .i64 r4.2.1.Period, .slice A10 n11 c12], .row A10 n11 c12 2 1 (ints r4.2.1.Starts), .row A74 xs76.length xs76.length 2 1 (ints xs200)]) F ?_ ?_ ?_
       ·exact ⟨xs76, 0, hl264, rfl, (FrD.pick (FrD.pick (FrD.pick (FrD.pick (FrD.pick (FrD.pick hf.none hf rfl) hf rfl) hf rfl) hf rfl) hf rfl) hf rfl), hs⟩
       ·rintro a w ⟨xs200, x202, h0_, -, -, -⟩; simp [laws_FnFreeSlacks_L4] at h0_
       ·rintro n266 a w ⟨xs200, x202, hm265, hn201, hf, hs⟩
        rw [laws_FnFreeSlacks_L4] at hm265
        refine wpL_seq <| wpL_seq <| wpL_region ?_
        refine sY hf hs rfl rfl rfl (Y_move rfl rfl) ?_; clear hf; intro a hf
        refine sY hf hs rfl rfl rfl (Y_lss rfl rfl rfl) ?_; clear hf; intro a hf
        refine wpO_nil ?_
        refine wpL_cond hf rfl (fun hb267 => ?_) (fun hb267 => ?_)
        ·have hm265 := bif_t hm265 hb267
         refine wpL_skip <| wpL_seq <| wpL_block0 <| wpL_seq <| wpL_region ?_
         refine sY hf hs rfl rfl rfl (Y_move rfl rfl) ?_; clear hf; intro a hf
         refine sY hf hs rfl rfl rfl (Y_move rfl rfl) ?_; clear hf; intro a hf
         refine sY hf hs rfl rfl rfl (Y_move rfl rfl) ?_; clear hf; intro a hf
         refine sY hf hs rfl rfl rfl (Y_move rfl rfl) ?_; clear hf; intro a hf
         refine sY hf hs rfl rfl rfl (Y_add rfl rfl rfl) ?_; clear hf; intro a hf
         obtain ⟨q268, hi269, hm265⟩ := bind_some hm265
         obtain ⟨hi269a, hi269b, hi269q⟩ := idx_some hi269
         refine sY hf hs rfl rfl rfl (Y_index rfl rfl rfl el23 ti2 (Rd.isAt (hs.rd (i := 4) rfl) (at1 (ints_at hi269q))) hi269a (ltn hn201 hi269b)) ?_; clear hf; intro a hf
         obtain ⟨xs270, hu271, hm265⟩ := bind_some hm265
         refine sStoreL (i := 4) (us := [.int .i64 (IntKind.i64.wrap (r16.1 + x202))]) (enc := ints) hf hs rfl rfl rfl rfl rfl rfl hn201 hu271 ti2 rfl rfl rfl rfl rfl ints_len1 (ints_set (IntKind.i64.wrap (r16.1 + x202))) ?_; clear hs; intro w hs
         have hs : St _ W w [_, _, _, _, .row A74 xs76.length xs76.length 2 1 (ints xs270)] := hs
         refine wpO_nil <| wpL_seq <| wpL_region ?_
         refine sY hf hs rfl rfl rfl (Y_load_blkS rfl rfl (i := 0) rfl ag52 ti52 rfl) ?_; clear hf; intro a hf
         refine sY hf hs rfl rfl rfl (Y_load_blkS rfl rfl (i := 2) rfl ag54 ti54 rfl) ?_; clear hf; intro a hf
         refine sY hf hs rfl rfl rfl (Y_move rfl rfl) ?_; clear hf; intro a hf
         obtain ⟨r272, hc273, hm265⟩ := bind_some hm265
         refine sCall hf rfl rfl rfl rfl (cap := []) rfl rfl en37 (impl_DelayTable_ok F (GEventGraph.mk r4.1.Events r4.1.Places) A6 n7 c8 hn9 (GTimetable.mk r4.2.1.Period r4.2.1.Starts) A10 n11 c12 hn13 xs270 A74 xs76.length xs76.length ((hn201).trans (upd_len hu271).symm) 7 _ _ hc273 (hs.rd (i := 1) rfl) (hs.rd (i := 3) rfl) (hs.rd (i := 4) rfl)) ?_; clear hf
         rintro _ w ⟨A274, n275, c276, vs278, rfl, hn277, hs1⟩ a hf
         have hs : St _ W w [_, _, _, _, _, .mat A274 n275 c276 23 2 vs278 r272.1] := hs.join hs1
         clear hs1
         refine sY hf hs rfl rfl rfl (Y_move rfl rfl) ?_; clear hf; intro a hf
         refine sY hf hs rfl rfl rfl (Y_extract rfl rfl rfl) ?_; clear hf; intro a hf
         refine sY hf hs rfl rfl rfl (Y_extract rfl rfl rfl) ?_; clear hf; intro a hf
         refine sY hf hs rfl rfl rfl (Y_assign rfl rfl) ?_; clear hf; intro a hf
         refine sY hf hs rfl rfl rfl (Y_assign rfl rfl) ?_; clear hf; intro a hf
         refine wpO_nil <| wpL_seq <| wpL_seq ?_
         obtain ⟨r281, hj282, hm265⟩ := bind_some hm265
         refine wpL_cut (fun a w => ∃ b280 : Bool, b280 = r281 ∧ Fr a 156 [(3, .pointer (some ⟨b14, 0, none⟩)), (4, .pointer (some ⟨b15, 0, none⟩)), (5, .int .i64 r4.2.2), (6, .int .i64 r16.1), (18, .slice A74 xs76.length xs76.length), (19, .int .i64 x202), (20, .slice A274 n275 c276), (134, .bool b280)] ∧ St [] W w [.blk b14 52 [.int .i64 r4.1.Events, .slice A6 n7 c8], .row A6 n7 c8 112 4 ((recs GPlace.cells) r4.1.Places), .blk b15 54 [.int .i64 r4.2.1.Period, .slice A10 n11 c12], .row A10 n11 c12 2 1 (ints r4.2.1.Starts), .row A74 xs76.length xs76.length 2 1 (ints xs270), .mat A274 n275 c276 23 2 vs278 r272.1]) ?_ ?_
         ·refine wpL_region ?_
          refine sY hf hs rfl rfl rfl (Y_move rfl rfl) ?_; clear hf; intro a hf
          refine sY hf hs rfl rfl rfl (Y_neq rfl rfl rfl) ?_; clear hf; intro a hf
          refine sY hf hs rfl rfl rfl (Y_move rfl rfl) ?_; clear hf; intro a hf
          refine bsplit (r272.2 != 0) (fun hb283 => ?_) (fun hb283 => ?_)
          ·have hj282 := bif_t hj282 hb283
           refine sNo hf rfl rfl rfl (congrArg (fun b => some (Value.bool b)) hb283) rfl rfl rfl ?_; clear hf; intro a hf
           refine sNo hf rfl rfl rfl (congrArg (fun b => some (Value.bool b)) hb283) rfl rfl rfl ?_; clear hf; intro a hf
           refine sNo hf rfl rfl rfl (congrArg (fun b => some (Value.bool b)) hb283) rfl rfl rfl ?_; clear hf; intro a hf
           refine sY hf hs rfl rfl rfl (Y_pickT rfl (congrArg (fun b => some (Value.bool b)) hb283) rfl) ?_; clear hf; intro a hf
           refine wpO_nil ?_
           refine wpL_nil (then_normal ?_)
           exact ⟨true, Option.some.inj hj282, (FrD.pick (FrD.pick (FrD.pick (FrD.pick (FrD.pick (FrD.pick (FrD.pick (FrD.pick hf.none hf rfl) hf rfl) hf rfl) hf rfl) hf rfl) hf rfl) hf rfl) hf rfl), hs⟩
          ·have hj282 := bif_f hj282 hb283
           refine sYg hf hs rfl rfl rfl (congrArg (fun b => some (Value.bool b)) hb283) rfl rfl rfl (Y_move rfl rfl) ?_; clear hf; intro a hf
           refine sYg hf hs rfl rfl rfl (congrArg (fun b => some (Value.bool b)) hb283) rfl rfl rfl (Y_lenH rfl rfl el59 hn277) ?_; clear hf; intro a hf
           refine sYg hf hs rfl rfl rfl (congrArg (fun b => some (Value.bool b)) hb283) rfl rfl rfl (Y_neq rfl rfl rfl) ?_; clear hf; intro a hf
           refine sY hf hs rfl rfl rfl (Y_pickF rfl (congrArg (fun b => some (Value.bool b)) hb283) rfl) ?_; clear hf; intro a hf
           refine wpO_nil ?_
           refine wpL_nil (then_normal ?_)
           exact ⟨((r272.1.length : Int) != 7), Option.some.inj hj282, (FrD.pick (FrD.pick (FrD.pick (FrD.pick (FrD.pick (FrD.pick (FrD.pick (FrD.pick hf.none hf rfl) hf rfl) hf rfl) hf rfl) hf rfl) hf rfl) hf rfl) hf rfl), hs⟩
         ·rintro a w ⟨b280, hr_, hf, hs⟩
          subst hr_
          try dsimp only at hm265
          refine wpL_cond hf rfl (fun hb284 => ?_) (fun hb284 => ?_)
          ·have hm265 := bif_t hm265 hb284
           refine wpL_seq <| wpL_region ?_
           refine sY hf hs rfl rfl rfl (Y_assign rfl rfl) ?_; clear hf; intro a hf
           refine wpO_nil ?_
           obtain rfl := Option.some.inj hm265
           try dsimp only at hm
           obtain rfl := Option.some.inj hm
           refine wpL_ret (Qb_ret (Ql_ret (Qb_ret (ret_tmp rfl hf rfl ?_))))
           exact ⟨_, rfl, rfl, hs.sel [] (by decide)⟩
          ·have hm265 := bif_f hm265 hb284
           refine wpL_skip <| wpL_seq <| wpL_region ?_
           refine sY hf hs rfl rfl rfl (Y_assign rfl rfl) ?_; clear hf; intro a hf
           refine wpO_nil <| wpL_seq <| wpL_seq <| wpL_region ?_
           refine sY hf hs rfl rfl rfl (Y_assign rfl rfl) ?_; clear hf; intro a hf
           refine wpO_nil ?_
           obtain ⟨r314, hl315, hm265⟩ := bind_some hm265
           refine wpL_block (fun a w => ∃ x313 : Int, x313 = r314 ∧ Fr a 156 [(3, .pointer (some ⟨b14, 0, none⟩)), (4, .pointer (some ⟨b15, 0, none⟩)), (5, .int .i64 r4.2.2), (6, .int .i64 r16.1), (18, .slice A74 xs76.length xs76.length), (19, .int .i64 x202), (22, .int .i64 x313)] ∧ St [] W w [.blk b14 52 [.int .i64 r4.1.Events, .slice A6 n7 c8], .row A6 n7 c8 112 4 ((recs GPlace.cells) r4.1.Places), .blk b15 54 [.int .i64 r4.2.1.Period, .slice A10 n11 c12], .row A10 n11 c12 2 1 (ints r4.2.1.Starts), .row A74 xs76.length xs76.length 2 1 (ints xs270)]) ?_ ?_
           ·refine wpL_loop (fun n a w => ∃ x303 : Int, ∃ x304 : Int, laws_FnFreeSlacks_L5 F r272 n x303 x304 = some r314 ∧ Fr a 156 [(3, .pointer (some ⟨b14, 0, none⟩)), (4, .pointer (some ⟨b15, 0, none⟩)), (5, .int .i64 r4.2.2), (6, .int .i64 r16.1), (18, .slice A74 xs76.length xs76.length), (19, .int .i64 x202), (20, .slice A274 n275 c276), (22, .int .i64 x303), (23, .int .i64 x304)] ∧ St [] W w [.blk b14 52 [.int .i64 r4.1.Events, .slice A6 n7 c8], .row A6 n7 c8 112 4 ((recs GPlace.cells) r4.1.Places), .blk b15 54 [.int .i64 r4.2.1.Period, .slice A10 n11 c12], .row A10 n11 c12 2 1 (ints r4.2.1.Starts), .row A74 xs76.length xs76.length 2 1 (ints xs270), .mat A274 n275 c276 23 2 vs278 r272.1]) F ?_ ?_ ?_
            ·exact ⟨0, 0, hl315, (FrD.pick (FrD.pick (FrD.pick (FrD.pick (FrD.pick (FrD.pick (FrD.pick (FrD.pick (FrD.pick hf.none hf rfl) hf rfl) hf rfl) hf rfl) hf rfl) hf rfl) hf rfl) hf rfl) hf rfl), hs⟩
            ·rintro a w ⟨x303, x304, h0_, -, -⟩; simp [laws_FnFreeSlacks_L5] at h0_
            ·rintro n317 a w ⟨x303, x304, hm316, hf, hs⟩
             rw [laws_FnFreeSlacks_L5] at hm316
             refine wpL_seq <| wpL_seq <| wpL_region ?_
             refine sY hf hs rfl rfl rfl (Y_move rfl rfl) ?_; clear hf; intro a hf
             refine sY hf hs rfl rfl rfl (Y_move rfl rfl) ?_; clear hf; intro a hf
             refine sY hf hs rfl rfl rfl (Y_lenH rfl rfl el59 hn277) ?_; clear hf; intro a hf
             refine sY hf hs rfl rfl rfl (Y_lss rfl rfl rfl) ?_; clear hf; intro a hf
             refine wpO_nil ?_
             refine wpL_cond hf rfl (fun hb318 => ?_) (fun hb318 => ?_)
             ·have hm316 := bif_t hm316 hb318
              refine wpL_skip <| wpL_seq <| wpL_block0 <| wpL_region ?_
              refine sY hf hs rfl rfl rfl (Y_move rfl rfl) ?_; clear hf; intro a hf
              refine sY hf hs rfl rfl rfl (Y_move rfl rfl) ?_; clear hf; intro a hf
              refine sY hf hs rfl rfl rfl (Y_move rfl rfl) ?_; clear hf; intro a hf
              obtain ⟨q319, hi320, hm316⟩ := bind_some hm316
              obtain ⟨hi320a, hi320b, hi320q⟩ := idx_some hi320
              obtain ⟨A321, c322, hv323⟩ := hs.matRow (i := 5) rfl hi320q
              refine sY hf hs rfl rfl rfl (Y_index rfl rfl rfl el59 ti23 (Rd.isAt (hs.rdV (i := 5) rfl) hv323) hi320a (ltn hn277 hi320b)) ?_; clear hf; intro a hf
              refine sY hf hs rfl rfl rfl (Y_load_rd rfl rfl (fun w hs => hs.rdV (i := 5) rfl) (at1 hv323) ag23) ?_; clear hf; intro a hf
              obtain ⟨r324, hc325, hm316⟩ := bind_some hm316
              refine sCall hf rfl rfl rfl rfl (cap := []) rfl rfl en38 (laws_sum_ok F q319 A321 q319.length c322 rfl _ _ hc325 (hs.rdRow (i := 5) rfl ⟨hi320q, hv323⟩)) ?_; clear hf
              rintro _ w ⟨rfl, hs1⟩ a hf
              have hs : St _ W w [_, _, _, _, _, _] := hs.ext hs1.below
              clear hs1
              refine sY hf hs rfl rfl rfl (Y_add rfl rfl rfl) ?_; clear hf; intro a hf
              refine sY hf hs rfl rfl rfl (Y_assign rfl rfl) ?_; clear hf; intro a hf
              refine wpO_nil ?_
              refine wpL_nil (Qb_normal ?_)
              refine wpL_region ?_
              refine sY hf hs rfl rfl rfl (Y_move rfl rfl) ?_; clear hf; intro a hf
              refine sY hf hs rfl rfl rfl (Y_add rfl rfl rfl) ?_; clear hf; intro a hf
              refine sY hf hs rfl rfl rfl (Y_assign rfl rfl) ?_; clear hf; intro a hf
              refine wpO_nil ?_
              refine wpL_nil (Ql_normal ?_)
              exact ⟨(IntKind.i64.wrap (x303 + r324)), (IntKind.i64.wrap (x304 + 1)), hm316, (FrD.pick (FrD.pick (FrD.pick (FrD.pick (FrD.pick (FrD.pick (FrD.pick (FrD.pick (FrD.pick hf.none hf rfl) hf rfl) hf rfl) hf rfl) hf rfl) hf rfl) hf rfl) hf rfl) hf rfl), hs⟩
             ·have hm316 := bif_f hm316 hb318
              refine wpL_exit (Ql_exit (Qb_exit ?_))
              exact ⟨x303, Option.some.inj hm316, (FrD.pick (FrD.pick (FrD.pick (FrD.pick (FrD.pick (FrD.pick (FrD.pick hf.none hf rfl) hf rfl) hf rfl) hf rfl) hf rfl) hf rfl) hf rfl), hs.sel [0, 1, 2, 3, 4] (by decide)⟩
           ·rintro a w ⟨x313, hr_, hf, hs⟩
            subst hr_
            try dsimp only at hm265
            refine wpL_seq <| wpL_region ?_
            refine sY hf hs rfl rfl rfl (Y_move rfl rfl) ?_; clear hf; intro a hf
            refine sY hf hs rfl rfl rfl (Y_move rfl rfl) ?_; clear hf; intro a hf
            refine sY hf hs rfl rfl rfl (Y_move rfl rfl) ?_; clear hf; intro a hf
            refine sY hf hs rfl rfl rfl (Y_add rfl rfl rfl) ?_; clear hf; intro a hf
            refine sY hf hs rfl rfl rfl (Y_gtr rfl rfl rfl) ?_; clear hf; intro a hf
            refine sY hf hs rfl rfl rfl (Y_move rfl rfl) ?_; clear hf; intro a hf
            refine sY hf hs rfl rfl rfl (Y_eql rfl rfl rfl) ?_; clear hf; intro a hf
            refine sY hf hs rfl rfl rfl (Y_neqB rfl rfl rfl Try.underlying4) ?_; clear hf; intro a hf
            refine wpO_nil ?_
            refine wpL_cond hf rfl (fun hb326 => ?_) (fun hb326 => ?_)
            ·have hm265 := bif_t hm265 hb326
             refine wpL_seq <| wpL_region ?_
             refine sY hf hs rfl rfl rfl (Y_assign rfl rfl) ?_; clear hf; intro a hf
             refine wpO_nil ?_
             obtain rfl := Option.some.inj hm265
             try dsimp only at hm
             obtain rfl := Option.some.inj hm
             refine wpL_ret (Qb_ret (Ql_ret (Qb_ret (ret_tmp rfl hf rfl ?_))))
             exact ⟨_, rfl, rfl, hs.sel [] (by decide)⟩
            ·have hm265 := bif_f hm265 hb326
             refine wpL_skip ?_
             refine wpL_nil (Qb_normal ?_)
             refine wpL_region ?_
             refine sY hf hs rfl rfl rfl (Y_move rfl rfl) ?_; clear hf; intro a hf
             refine sY hf hs rfl rfl rfl (Y_add rfl rfl rfl) ?_; clear hf; intro a hf
             refine sY hf hs rfl rfl rfl (Y_assign rfl rfl) ?_; clear hf; intro a hf
             refine wpO_nil ?_
             refine wpL_nil (Ql_normal ?_)
             exact ⟨xs270, (IntKind.i64.wrap (x202 + 1)), hm265, ((hn201).trans (upd_len hu271).symm), (FrD.pick (FrD.pick (FrD.pick (FrD.pick (FrD.pick (FrD.pick hf.none hf rfl) hf rfl) hf rfl) hf rfl) hf rfl) hf rfl), hs⟩
        ·have hm265 := bif_f hm265 hb267
         refine wpL_exit (Ql_exit (Qb_exit ?_))
         exact ⟨Option.some.inj hm265, hf.none, hs.sel [] (by decide)⟩
      ·rintro a w ⟨hr_, hf, hs⟩
       subst hr_
       try dsimp only at hm
       refine wpL_seq <| wpL_region ?_
       refine sY hf hs rfl rfl rfl (Y_assign rfl rfl) ?_; clear hf; intro a hf
       refine wpO_nil ?_
       obtain rfl := Option.some.inj hm
       refine wpL_ret (ret_tmp rfl hf rfl ?_)
       exact ⟨_, rfl, rfl, hs⟩

end Go.Proofs.Ytebmlphobgaboaa
