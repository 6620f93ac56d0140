/- The functions do what their models say. -/
import Derived.Test.YtgkgimglgjfcjaaReversedLifted1
import Derived.Test.YtgkgimglgjfcjaaRows
namespace Go.Proofs.Ytgkgimglgjfcjaa
open Go.RowKit

set_option maxRecDepth 100000 in
theorem impl_ReverseGraph_ok (F : Nat) (ab : GEventGraph) (ac : Option Addr) (ap ad : Nat) (ax : ap = ab.Places.length) (r : GEventGraph × Int) (W : World) (hm : impl_ReverseGraph F ab = some r) (aq : Rd W ac ((recs GPlace.cells) ab.Places)) :
  Calls Try.prog 59 [.agg #[.int .i64 ab.Events, .slice ac ap ad]].toArray W fun e w' => ∃ v, e = .returned v ∧ ∃ A106, ∃ n107, ∃ c108, v = .tuple #[.agg #[.int .i64 r.1.Events, .slice A106 n107 c108], .int .i64 r.2] ∧ n107 = r.1.Places.length ∧ St [] W w' [.row A106 n107 c108 127 4 ((recs GPlace.cells) r.1.Places)] := by
 subst ax
 unfold impl_ReverseGraph at hm
 refine Calls.enter (N := 37) Try.func59 rfl rfl rfl (fun a hf => ?_)
 have hs := St.start W
 obtain ⟨w, hw_⟩ : ∃ w, w = W := ⟨W, rfl⟩
 clear hw_ w
 refine wpL_seq <| wpL_region ?_
 refine sBox hf hs rfl rfl rfl rfl rfl (cs := [.int .i64 ab.Events, .slice ac ab.Places.length ad]) rfl ?_; clear hf hs; intro a w b1 hs hf
 have hs : St [] W w [.blk b1 59 [.int .i64 ab.Events, .slice ac ab.Places.length ad]] := hs
 refine sAlloc hf hs rfl rfl rfl rfl ti59 ?_; clear hf hs; intro a w b2 hs hf
 have hs : St [] W w [.blk b1 59 [.int .i64 ab.Events, .slice ac ab.Places.length ad], .blk b2 59 [.int .i64 0, .slice none 0 0]] := hs
 refine sY hf hs rfl rfl rfl (Y_assign rfl rfl) ?_; clear hf; intro a hf
 refine wpO_nil <| wpL_seq <| wpL_seq <| wpL_region ?_
 refine sY hf hs rfl rfl rfl (Y_load_blkS rfl rfl (i := 0) rfl ag59 ti59 rfl) ?_; clear hf; intro a hf
 obtain ⟨r3, hc4, hm⟩ := bind_some hm
 refine sCall hf rfl rfl rfl rfl (cap := []) rfl rfl en51 (impl_IsEventGraph_ok F ab ac ab.Places.length ad rfl _ _ hc4 (aq.at hs)) ?_; clear hf
 rintro _ w ⟨rfl, hs1⟩ a hf
 have hs : St [] W w [.blk b1 59 [.int .i64 ab.Events, .slice ac ab.Places.length ad], .blk b2 59 [.int .i64 0, .slice none 0 0]] := hs.ext hs1.below
 clear hs1
 refine sY hf hs rfl rfl rfl (Y_not rfl rfl) ?_; clear hf; intro a hf
 refine wpO_nil ?_
 refine wpL_cond hf rfl (fun hb5 => ?_) (fun hb5 => ?_)
 ·have hm := bif_t hm hb5
  refine wpL_seq <| wpL_region ?_
  refine sY hf hs rfl rfl rfl (Y_build (parts := []) (vs := []) rfl rfl (run_build (parts := []) (cells := [.int .i64 0, .slice none 0 0]) (places := #[(0, 1), (1, 1)]) ti59 Try.underlying59 (fun w => by simp [go_sem]) rfl)) ?_; clear hf; intro a hf
  refine sStore (i := 1) (us := [.int .i64 0, .slice none 0 0]) hf hs rfl rfl rfl rfl rfl rfl ti59 rfl rfl rfl (Nat.le_of_ble_eq_true rfl) rfl ?_; clear hs; intro w hs
  have hs : St [] W w [.blk b1 59 [.int .i64 ab.Events, .slice ac ab.Places.length ad], .blk b2 59 [.int .i64 0, .slice none 0 0]] := hs
  refine sY hf hs rfl rfl rfl (Y_assign rfl rfl) ?_; clear hf; intro a hf
  refine wpO_nil ?_
  have hs : St [] W _ [.blk b1 59 [.int .i64 ab.Events, .slice ac ab.Places.length ad], .blk b2 59 [.int .i64 0, .slice none 0 0], .row none 0 0 127 4 ((recs GPlace.cells) ([] : List GPlace))] := hs.addNil 127 4
  obtain rfl := Option.some.inj hm
  refine wpL_ret (ret_cell_tmp rfl hf rfl rfl hs (i := 1) rfl ag59 ti59 rfl ?_)
  exact ⟨_, rfl, none, 0, 0, rfl, rfl, hs.sel [2] (by decide)⟩
 ·have hm := bif_f hm hb5
  refine wpL_skip <| wpL_seq <| wpL_region ?_
  refine sY hf hs rfl rfl rfl (Y_load_blkS rfl rfl (i := 0) rfl ag59 ti59 rfl) ?_; clear hf; intro a hf
  obtain ⟨r7, hc8, hm⟩ := bind_some hm
  refine sCall hf rfl rfl rfl rfl (cap := []) rfl rfl en126 (impl_cloneGraph_ok F ab ac ab.Places.length ad rfl _ _ hc8 (aq.at hs)) ?_; clear hf
  rintro _ w ⟨A9, n10, c11, rfl, hn12, hs1⟩ a hf
  have hs : St [] W w [.blk b1 59 [.int .i64 ab.Events, .slice ac ab.Places.length ad], .blk b2 59 [.int .i64 0, .slice none 0 0], .row A9 n10 c11 127 4 ((recs GPlace.cells) r7.Places)] := hs.join hs1
  clear hs1
  refine sAlloc hf hs rfl rfl rfl rfl ti59 ?_; clear hf hs; intro a w b13 hs hf
  have hs : St [] W w [.blk b1 59 [.int .i64 ab.Events, .slice ac ab.Places.length ad], .blk b2 59 [.int .i64 0, .slice none 0 0], .row A9 n10 c11 127 4 ((recs GPlace.cells) r7.Places), .blk b13 59 [.int .i64 0, .slice none 0 0]] := hs
  refine sStore (i := 3) (us := [.int .i64 r7.Events, .slice A9 n10 c11]) hf hs rfl rfl rfl rfl rfl rfl ti59 rfl rfl rfl (Nat.le_of_ble_eq_true rfl) rfl ?_; clear hs; intro w hs
  have hs : St [] W w [.blk b1 59 [.int .i64 ab.Events, .slice ac ab.Places.length ad], .blk b2 59 [.int .i64 0, .slice none 0 0], .row A9 n10 c11 127 4 ((recs GPlace.cells) r7.Places), .blk b13 59 [.int .i64 r7.Events, .slice A9 n10 c11]] := hs
  refine wpO_nil <| wpL_seq <| wpL_seq <| wpL_region ?_
  refine sY hf hs rfl rfl rfl (Y_fieldAddr rfl rfl fo59_1) ?_; clear hf; intro a hf
  refine sY hf hs rfl rfl rfl (Y_load_blk rfl rfl (i := 0) rfl rfl ag57) ?_; clear hf; intro a hf
  refine sY hf hs rfl rfl rfl (Y_lenH rfl rfl el57 rfl) ?_; clear hf; intro a hf
  refine sY hf hs rfl rfl rfl (Y_move rfl rfl) ?_; clear hf; intro a hf
  refine wpO_nil ?_
  obtain ⟨r82, hl83, hm⟩ := bind_some hm
  refine wpL_block (fun a w => ∃ xs80 : List GPlace, xs80 = r82 ∧ n10 = xs80.length ∧ Fr a 37 [(2, .pointer (some ⟨b2, 0, none⟩)), (4, .pointer (some ⟨b13, 0, none⟩))] ∧ St [] W w [.blk b2 59 [.int .i64 0, .slice none 0 0], .blk b13 59 [.int .i64 r7.Events, .slice A9 n10 c11], .row A9 n10 c11 127 4 ((recs GPlace.cells) xs80)]) ?_ ?_
  ·refine wpL_loop (fun n a w => ∃ xs57 : List GPlace, ∃ x59 : Int, impl_ReverseGraph_L1 F ab n xs57 x59 = some r82 ∧ n10 = xs57.length ∧ Fr a 37 [(2, .pointer (some ⟨b2, 0, none⟩)), (4, .pointer (some ⟨b13, 0, none⟩)), (14, .slice ac ab.Places.length ad), (15, .int .i64 (ab.Places.length : Int)), (16, .int .i64 x59)] ∧ St [] W w [.blk b2 59 [.int .i64 0, .slice none 0 0], .blk b13 59 [.int .i64 r7.Events, .slice A9 n10 c11], .row A9 n10 c11 127 4 ((recs GPlace.cells) xs57)]) F ?_ ?_ ?_
   ·exact ⟨r7.Places, 0, hl83, hn12, (FrD.pick (FrD.pick (FrD.pick (FrD.pick (FrD.pick hf.none hf rfl) hf rfl) hf rfl) hf rfl) hf rfl), hs.sel [1, 3, 2] (by decide)⟩
   ·rintro a w ⟨xs57, x59, h0_, -, -, -⟩; simp [impl_ReverseGraph_L1] at h0_
   ·rintro n85 a w ⟨xs57, x59, hm84, hn58, hf, hs⟩
    rw [impl_ReverseGraph_L1] at hm84
    refine wpL_seq <| wpL_region ?_
    refine sY hf hs rfl rfl rfl (Y_lss rfl rfl rfl) ?_; clear hf; intro a hf
    refine wpO_nil <| wpL_seq ?_
    refine wpL_cond hf rfl (fun hb86 => ?_) (fun hb86 => ?_)
    ·have hm84 := bif_t hm84 hb86
     refine wpL_skip <| wpL_seq <| wpL_block0 <| wpL_seq <| wpL_region ?_
     refine sY hf hs rfl rfl rfl (Y_move rfl rfl) ?_; clear hf; intro a hf
     obtain ⟨q87, hi88, hm84⟩ := bind_some hm84
     obtain ⟨hi88a, hi88b, hi88q⟩ := idx_some hi88
     refine sY hf hs rfl rfl rfl (Y_index rfl rfl rfl el57 ti127 (Rd.isAt (aq.at hs) (recs_at (s := 4) GPlace.len hi88q (j := 0) rfl)) hi88a hi88b) ?_; clear hf; intro a hf
     refine sY hf hs rfl rfl rfl (Y_load_rdS rfl rfl (us := [.int .i64 q87.From, .int .i64 q87.To, .int .i64 q87.Delay, .int .i64 q87.Tokens]) (fun w hs => aq.at hs) (fun j u hj => recs_at (s := 4) GPlace.len hi88q hj) (Nat.succ_pos _) ag127 ti127 rfl) ?_; clear hf; intro a hf
     refine sAlloc hf hs rfl rfl rfl rfl ti127 ?_; clear hf hs; intro a w b89 hs hf
     have hs : St [] W w [.blk b2 59 [.int .i64 0, .slice none 0 0], .blk b13 59 [.int .i64 r7.Events, .slice A9 n10 c11], .row A9 n10 c11 127 4 ((recs GPlace.cells) xs57), .blk b89 127 [.int .i64 0, .int .i64 0, .int .i64 0, .int .i64 0]] := hs
     refine sY hf hs rfl rfl rfl (Y_assign rfl rfl) ?_; clear hf; intro a hf
     refine sStore (i := 3) (us := [.int .i64 q87.From, .int .i64 q87.To, .int .i64 q87.Delay, .int .i64 q87.Tokens]) hf hs rfl rfl rfl rfl rfl rfl ti127 rfl rfl rfl (Nat.le_of_ble_eq_true rfl) rfl ?_; clear hs; intro w hs
     have hs : St [] W w [.blk b2 59 [.int .i64 0, .slice none 0 0], .blk b13 59 [.int .i64 r7.Events, .slice A9 n10 c11], .row A9 n10 c11 127 4 ((recs GPlace.cells) xs57), .blk b89 127 [.int .i64 q87.From, .int .i64 q87.To, .int .i64 q87.Delay, .int .i64 q87.Tokens]] := hs
     refine wpO_nil ?_
     refine wpL_drawM [.blk b2 59 [.int .i64 0, .slice none 0 0], .blk b13 59 [.int .i64 r7.Events, .slice A9 n10 c11], .blk b89 127 [.int .i64 q87.From, .int .i64 q87.To, .int .i64 q87.Delay, .int .i64 q87.Tokens]] [15] (by kernel_rfl) hs ?_; clear hs; intro w hs
     have hs0 : St [] W w [.blk b2 59 [.int .i64 0, .slice none 0 0], .blk b13 59 [.int .i64 r7.Events, .slice A9 n10 c11], .blk b89 127 [.int .i64 q87.From, .int .i64 q87.To, .int .i64 q87.Delay, .int .i64 q87.Tokens]] := hs.sel [0, 1, 3] (by decide)
     refine mYp (i := 0) rfl (by kernel_rfl) (by kernel_rfl) hf rfl rfl rfl (fun _ => Y_fieldAddr rfl rfl fo59_1) ?_; clear hf; intro a hf
     refine mY (i := 1) [[]] rfl (by kernel_rfl) (by kernel_rfl) hf hs0 rfl rfl rfl (Y_load_blk rfl rfl (i := 1) rfl rfl ag57) ?_; clear hf; intro a hf
     refine mYp (i := 2) rfl (by kernel_rfl) (by kernel_rfl) hf rfl rfl rfl (fun _ => Y_move rfl rfl) ?_; clear hf; intro a hf
     refine mYp (i := 3) rfl (by kernel_rfl) (by kernel_rfl) hf rfl rfl rfl (fun _ => Y_fieldAddr rfl rfl fo59_1) ?_; clear hf; intro a hf
     refine mY (i := 4) [[]] rfl (by kernel_rfl) (by kernel_rfl) hf hs0 rfl rfl rfl (Y_load_blk rfl rfl (i := 1) rfl rfl ag57) ?_; clear hf; intro a hf
     refine mYp (i := 5) rfl (by kernel_rfl) (by kernel_rfl) hf rfl rfl rfl (fun _ => Y_move rfl rfl) ?_; clear hf; intro a hf
     refine mYp (i := 6) rfl (by kernel_rfl) (by kernel_rfl) hf rfl rfl rfl (fun _ => Y_fieldAddr rfl rfl fo127_1) ?_; clear hf; intro a hf
     refine mY (i := 7) [[]] rfl (by kernel_rfl) (by kernel_rfl) hf hs0 rfl rfl rfl (Y_load_blk rfl rfl (i := 2) rfl rfl ag2) ?_; clear hf; intro a hf
     refine mYp (i := 8) rfl (by kernel_rfl) (by kernel_rfl) hf rfl rfl rfl (fun _ => Y_fieldAddr rfl rfl fo127_0) ?_; clear hf; intro a hf
     refine mY (i := 9) [[]] rfl (by kernel_rfl) (by kernel_rfl) hf hs0 rfl rfl rfl (Y_load_blk rfl rfl (i := 2) rfl rfl ag2) ?_; clear hf; intro a hf
     obtain ⟨q98, hi99, hm84⟩ := bind_some hm84
     obtain ⟨hi99a, hi99b, hi99q⟩ := idx_some hi99
     refine mYp (i := 10) rfl (by kernel_rfl) (by kernel_rfl) hf rfl rfl rfl (fun _ => Y_index rfl rfl rfl el57 ti127 (Rd.isAt (hs.rd (i := 2) rfl) (recs_at (s := 4) GPlace.len hi99q (j := 0) rfl)) hi99a (ltn hn58 hi99b)) ?_; clear hf; intro a hf
     refine mYp (i := 11) rfl (by kernel_rfl) (by kernel_rfl) hf rfl rfl rfl (fun _ => Y_fieldAddrE rfl rfl fo127_0) ?_; clear hf; intro a hf
     refine mRun (i := 12) rfl (by kernel_rfl) ?_
     obtain ⟨xs100, hu101, hm84⟩ := bind_some hm84
     refine sStoreF (i := 2) (s := 4) (fo := 0) (f := GPlace.cells) (x' := (GPlace.mk q87.To q98.To q98.Delay q98.Tokens)) hf hs rfl rfl rfl rfl rfl rfl hi99q hu101 ti2 rfl rfl rfl GPlace.len rfl rfl ?_; clear hs; intro w hs
     have hs : St [] W w [.blk b2 59 [.int .i64 0, .slice none 0 0], .blk b13 59 [.int .i64 r7.Events, .slice A9 n10 c11], .row A9 n10 c11 127 4 ((recs GPlace.cells) xs100), .blk b89 127 [.int .i64 q87.From, .int .i64 q87.To, .int .i64 q87.Delay, .int .i64 q87.Tokens]] := hs
     have hs0 : St [] W w [.blk b2 59 [.int .i64 0, .slice none 0 0], .blk b13 59 [.int .i64 r7.Events, .slice A9 n10 c11], .blk b89 127 [.int .i64 q87.From, .int .i64 q87.To, .int .i64 q87.Delay, .int .i64 q87.Tokens]] := hs.sel [0, 1, 3] (by decide)
     refine wpO_nil ⟨Or.inr (fun _ => hs0), ?_⟩
     obtain ⟨q102, hi103, hm84⟩ := bind_some hm84
     obtain ⟨hi103a, hi103b, hi103q⟩ := idx_some hi103
     refine mYp (i := 13) rfl (by kernel_rfl) (by kernel_rfl) hf rfl rfl rfl (fun _ => Y_index rfl rfl rfl el57 ti127 (Rd.isAt (hs.rd (i := 2) rfl) (recs_at (s := 4) GPlace.len hi103q (j := 0) rfl)) hi103a (ltn ((hn58).trans (upd_len hu101).symm) hi103b)) ?_; clear hf; intro a hf
     refine mYp (i := 14) rfl (by kernel_rfl) (by kernel_rfl) hf rfl rfl rfl (fun _ => Y_fieldAddrE rfl rfl fo127_1) ?_; clear hf; intro a hf
     refine mRun (i := 15) rfl (by kernel_rfl) ?_
     obtain ⟨xs104, hu105, hm84⟩ := bind_some hm84
     refine sStoreF (i := 2) (s := 4) (fo := 1) (f := GPlace.cells) (x' := (GPlace.mk q102.From q87.From q102.Delay q102.Tokens)) hf hs rfl rfl rfl rfl rfl rfl hi103q hu105 ti2 rfl rfl rfl GPlace.len rfl rfl ?_; clear hs; intro w hs
     have hs : St [] W w [.blk b2 59 [.int .i64 0, .slice none 0 0], .blk b13 59 [.int .i64 r7.Events, .slice A9 n10 c11], .row A9 n10 c11 127 4 ((recs GPlace.cells) xs104), .blk b89 127 [.int .i64 q87.From, .int .i64 q87.To, .int .i64 q87.Delay, .int .i64 q87.Tokens]] := hs
     refine wpO_nil ⟨Or.inl (by decide), ?_⟩
     refine mDone (by kernel_rfl) ?_
     clear hs0
     refine wpL_nil (Qb_normal ?_)
     refine wpL_region ?_
     refine sY hf hs rfl rfl rfl (Y_add rfl rfl rfl) ?_; clear hf; intro a hf
     refine sY hf hs rfl rfl rfl (Y_move rfl rfl) ?_; clear hf; intro a hf
     refine wpO_nil ?_
     refine wpL_nil (Ql_normal ?_)
     exact ⟨xs104, (IntKind.i64.wrap (x59 + 1)), hm84, ((((hn58).trans (upd_len hu101).symm)).trans (upd_len hu105).symm), (FrD.pick (FrD.pick (FrD.pick (FrD.pick (FrD.pick hf.none hf rfl) hf rfl) hf rfl) hf rfl) hf rfl), hs.sel [0, 1, 2] (by decide)⟩
    ·have hm84 := bif_f hm84 hb86
     refine wpL_exit (Ql_exit (Qb_exit ?_))
     exact ⟨xs57, Option.some.inj hm84, hn58, (FrD.pick (FrD.pick hf.none hf rfl) hf rfl), hs⟩
  ·rintro a w ⟨xs80, hr_, hn81, hf, hs⟩
   subst hr_
   try dsimp only at hm
   refine wpL_seq <| wpL_region ?_
   refine sY hf hs rfl rfl rfl (Y_load_blkS rfl rfl (i := 1) rfl ag59 ti59 rfl) ?_; clear hf; intro a hf
   refine sStore (i := 0) (us := [.int .i64 r7.Events, .slice A9 n10 c11]) hf hs rfl rfl rfl rfl rfl rfl ti59 rfl rfl rfl (Nat.le_of_ble_eq_true rfl) rfl ?_; clear hs; intro w hs
   have hs : St [] W w [.blk b2 59 [.int .i64 r7.Events, .slice A9 n10 c11], .blk b13 59 [.int .i64 r7.Events, .slice A9 n10 c11], .row A9 n10 c11 127 4 ((recs GPlace.cells) xs80)] := hs
   refine sY hf hs rfl rfl rfl (Y_assign rfl rfl) ?_; clear hf; intro a hf
   refine wpO_nil ?_
   obtain rfl := Option.some.inj hm
   refine wpL_ret (ret_cell_tmp rfl hf rfl rfl hs (i := 0) rfl ag59 ti59 rfl ?_)
   exact ⟨_, rfl, A9, n10, c11, rfl, hn81, hs.sel [2] (by decide)⟩

set_option maxRecDepth 100000 in
theorem spec_l01In_ok (F : Nat) (bB : Int) (bb : Int) (aY : Int) (r : Bool) (W : World) (hm : spec_l01In F bB bb aY = some r) :
  Calls Try.prog 115 [.int .i64 bB, .int .i64 bb, .int .i64 aY].toArray W fun e w' => ∃ v, e = .returned v ∧ v = .bool r ∧ St [] W w' [] := by
 unfold spec_l01In at hm
 refine Calls.enter (N := 15) Try.func115 rfl rfl rfl (fun a hf => ?_)
 have hs := St.start W
 obtain ⟨w, hw_⟩ : ∃ w, w = W := ⟨W, rfl⟩
 clear hw_ w
 refine wpL_seq <| wpL_region ?_
 refine sY hf hs rfl rfl rfl (Y_assign rfl rfl) ?_; clear hf; intro a hf
 refine wpO_nil <| wpL_seq ?_
 obtain ⟨r3, hj4, hm⟩ := bind_some hm
 refine wpL_cut (fun a w => ∃ b2 : Bool, b2 = r3 ∧ Fr a 15 [(6, .bool b2)] ∧ St [] W w []) ?_ ?_
 ·refine wpL_region ?_
  refine sY hf hs rfl rfl rfl (Y_move rfl rfl) ?_; clear hf; intro a hf
  refine sY hf hs rfl rfl rfl (Y_move rfl rfl) ?_; clear hf; intro a hf
  refine sY hf hs rfl rfl rfl (Y_geq rfl rfl rfl) ?_; clear hf; intro a hf
  refine sY hf hs rfl rfl rfl (Y_move rfl rfl) ?_; clear hf; intro a hf
  refine bsplit (decide (bb ≤ bB)) (fun hb5 => ?_) (fun hb5 => ?_)
  ·have hj4 := bif_t hj4 hb5
   refine sYg hf hs rfl rfl rfl (congrArg (fun b => some (Value.bool b)) hb5) rfl rfl rfl (Y_move rfl rfl) ?_; clear hf; intro a hf
   refine sYg hf hs rfl rfl rfl (congrArg (fun b => some (Value.bool b)) hb5) rfl rfl rfl (Y_move rfl rfl) ?_; clear hf; intro a hf
   refine sYg hf hs rfl rfl rfl (congrArg (fun b => some (Value.bool b)) hb5) rfl rfl rfl (Y_leq rfl rfl rfl) ?_; clear hf; intro a hf
   refine sY hf hs rfl rfl rfl (Y_pickT rfl (congrArg (fun b => some (Value.bool b)) hb5) rfl) ?_; clear hf; intro a hf
   refine sY hf hs rfl rfl rfl (Y_assign rfl rfl) ?_; clear hf; intro a hf
   refine wpO_nil ?_
   refine wpL_nil (then_normal ?_)
   exact ⟨(decide (bB ≤ aY)), Option.some.inj hj4, (FrD.pick hf.none hf rfl), hs⟩
  ·have hj4 := bif_f hj4 hb5
   refine sNo hf rfl rfl rfl (congrArg (fun b => some (Value.bool b)) hb5) rfl rfl rfl ?_; clear hf; intro a hf
   refine sNo hf rfl rfl rfl (congrArg (fun b => some (Value.bool b)) hb5) rfl rfl rfl ?_; clear hf; intro a hf
   refine sNo hf rfl rfl rfl (congrArg (fun b => some (Value.bool b)) hb5) rfl rfl rfl ?_; clear hf; intro a hf
   refine sY hf hs rfl rfl rfl (Y_pickF rfl (congrArg (fun b => some (Value.bool b)) hb5) rfl) ?_; clear hf; intro a hf
   refine sY hf hs rfl rfl rfl (Y_assign rfl rfl) ?_; clear hf; intro a hf
   refine wpO_nil ?_
   refine wpL_nil (then_normal ?_)
   exact ⟨false, Option.some.inj hj4, (FrD.pick hf.none hf rfl), hs⟩
 ·rintro a w ⟨b2, hr_, hf, hs⟩
  subst hr_
  try dsimp only at hm
  obtain rfl := Option.some.inj hm
  refine wpL_ret (ret_tmp rfl hf rfl ?_)
  exact ⟨_, rfl, rfl, hs⟩

set_option maxRecDepth 100000 in
theorem spec_l11Place_ok (F : Nat) (ao : GPlace) (aj : Int) (r : Bool) (W : World) (hm : spec_l11Place F ao aj = some r) :
  Calls Try.prog 172 [.agg #[.int .i64 ao.From, .int .i64 ao.To, .int .i64 ao.Delay, .int .i64 ao.Tokens], .int .i64 aj].toArray W fun e w' => ∃ v, e = .returned v ∧ v = .bool r ∧ St [] W w' [] := by
 unfold spec_l11Place at hm
 refine Calls.enter (N := 27) Try.func172 rfl rfl rfl (fun a hf => ?_)
 have hs := St.start W
 obtain ⟨w, hw_⟩ : ∃ w, w = W := ⟨W, rfl⟩
 clear hw_ w
 refine wpL_seq <| wpL_region ?_
 refine sBox hf hs rfl rfl rfl rfl rfl (cs := [.int .i64 ao.From, .int .i64 ao.To, .int .i64 ao.Delay, .int .i64 ao.Tokens]) rfl ?_; clear hf hs; intro a w b1 hs hf
 have hs : St [] W w [.blk b1 127 [.int .i64 ao.From, .int .i64 ao.To, .int .i64 ao.Delay, .int .i64 ao.Tokens]] := hs
 refine sY hf hs rfl rfl rfl (Y_assign rfl rfl) ?_; clear hf; intro a hf
 refine wpO_nil <| wpL_seq ?_
 obtain ⟨r14, hj15, hm⟩ := bind_some hm
 refine wpL_cut (fun a w => ∃ b13 : Bool, b13 = r14 ∧ Fr a 27 [(4, .bool b13)] ∧ St [] W w []) ?_ ?_
 ·refine wpL_region ?_
  refine sY hf hs rfl rfl rfl (Y_fieldAddr rfl rfl fo127_0) ?_; clear hf; intro a hf
  refine sY hf hs rfl rfl rfl (Y_load_blk rfl rfl (i := 0) rfl rfl ag2) ?_; clear hf; intro a hf
  refine sY hf hs rfl rfl rfl (Y_move rfl rfl) ?_; clear hf; intro a hf
  refine sY hf hs rfl rfl rfl (Y_sub rfl rfl rfl) ?_; clear hf; intro a hf
  obtain ⟨r16, hc17, hj15⟩ := bind_some hj15
  refine sCall hf rfl rfl rfl rfl (cap := []) rfl rfl en115 (spec_l01In_ok F ao.From 0 (IntKind.i64.wrap (aj - 1)) _ _ hc17) ?_; clear hf
  rintro _ w ⟨rfl, hs1⟩ a hf
  have hs : St [] W w [.blk b1 127 [.int .i64 ao.From, .int .i64 ao.To, .int .i64 ao.Delay, .int .i64 ao.Tokens]] := hs.ext hs1.below
  clear hs1
  refine sY hf hs rfl rfl rfl (Y_move rfl rfl) ?_; clear hf; intro a hf
  refine bsplit r16 (fun hb18 => ?_) (fun hb18 => ?_)
  ·have hj15 := bif_t hj15 hb18
   refine sYg hf hs rfl rfl rfl (congrArg (fun b => some (Value.bool b)) hb18) rfl rfl rfl (Y_fieldAddr rfl rfl fo127_1) ?_; clear hf; intro a hf
   refine sYg hf hs rfl rfl rfl (congrArg (fun b => some (Value.bool b)) hb18) rfl rfl rfl (Y_load_blk rfl rfl (i := 0) rfl rfl ag2) ?_; clear hf; intro a hf
   refine sYg hf hs rfl rfl rfl (congrArg (fun b => some (Value.bool b)) hb18) rfl rfl rfl (Y_move rfl rfl) ?_; clear hf; intro a hf
   refine sYg hf hs rfl rfl rfl (congrArg (fun b => some (Value.bool b)) hb18) rfl rfl rfl (Y_sub rfl rfl rfl) ?_; clear hf; intro a hf
   obtain ⟨r19, hc20, hj15⟩ := bind_some hj15
   refine sCallg hf rfl rfl rfl (congrArg (fun b => some (Value.bool b)) hb18) rfl rfl rfl rfl (cap := []) rfl rfl en115 (spec_l01In_ok F ao.To 0 (IntKind.i64.wrap (aj - 1)) _ _ hc20) ?_; clear hf
   rintro _ w ⟨rfl, hs1⟩ a hf
   have hs : St [] W w [.blk b1 127 [.int .i64 ao.From, .int .i64 ao.To, .int .i64 ao.Delay, .int .i64 ao.Tokens]] := hs.ext hs1.below
   clear hs1
   refine sY hf hs rfl rfl rfl (Y_pickT rfl (congrArg (fun b => some (Value.bool b)) hb18) rfl) ?_; clear hf; intro a hf
   refine sY hf hs rfl rfl rfl (Y_move rfl rfl) ?_; clear hf; intro a hf
   refine bsplit r19 (fun hb21 => ?_) (fun hb21 => ?_)
   ·have hj15 := bif_t hj15 hb21
    refine sYg hf hs rfl rfl rfl (congrArg (fun b => some (Value.bool b)) hb21) rfl rfl rfl (Y_fieldAddr rfl rfl fo127_2) ?_; clear hf; intro a hf
    refine sYg hf hs rfl rfl rfl (congrArg (fun b => some (Value.bool b)) hb21) rfl rfl rfl (Y_load_blk rfl rfl (i := 0) rfl rfl ag2) ?_; clear hf; intro a hf
    obtain ⟨r22, hc23, hj15⟩ := bind_some hj15
    refine sCallg hf rfl rfl rfl (congrArg (fun b => some (Value.bool b)) hb21) rfl rfl rfl rfl (cap := []) rfl rfl en115 (spec_l01In_ok F ao.Delay 0 1000 _ _ hc23) ?_; clear hf
    rintro _ w ⟨rfl, hs1⟩ a hf
    have hs : St [] W w [.blk b1 127 [.int .i64 ao.From, .int .i64 ao.To, .int .i64 ao.Delay, .int .i64 ao.Tokens]] := hs.ext hs1.below
    clear hs1
    refine sY hf hs rfl rfl rfl (Y_pickT rfl (congrArg (fun b => some (Value.bool b)) hb21) rfl) ?_; clear hf; intro a hf
    refine sY hf hs rfl rfl rfl (Y_move rfl rfl) ?_; clear hf; intro a hf
    refine bsplit r22 (fun hb24 => ?_) (fun hb24 => ?_)
    ·have hj15 := bif_t hj15 hb24
     refine sYg hf hs rfl rfl rfl (congrArg (fun b => some (Value.bool b)) hb24) rfl rfl rfl (Y_fieldAddr rfl rfl fo127_3) ?_; clear hf; intro a hf
     refine sYg hf hs rfl rfl rfl (congrArg (fun b => some (Value.bool b)) hb24) rfl rfl rfl (Y_load_blk rfl rfl (i := 0) rfl rfl ag2) ?_; clear hf; intro a hf
     obtain ⟨r25, hc26, hj15⟩ := bind_some hj15
     refine sCallg hf rfl rfl rfl (congrArg (fun b => some (Value.bool b)) hb24) rfl rfl rfl rfl (cap := []) rfl rfl en115 (spec_l01In_ok F ao.Tokens 0 5 _ _ hc26) ?_; clear hf
     rintro _ w ⟨rfl, hs1⟩ a hf
     have hs : St [] W w [.blk b1 127 [.int .i64 ao.From, .int .i64 ao.To, .int .i64 ao.Delay, .int .i64 ao.Tokens]] := hs.ext hs1.below
     clear hs1
     refine sY hf hs rfl rfl rfl (Y_pickT rfl (congrArg (fun b => some (Value.bool b)) hb24) rfl) ?_; clear hf; intro a hf
     refine sY hf hs rfl rfl rfl (Y_assign rfl rfl) ?_; clear hf; intro a hf
     refine wpO_nil ?_
     refine wpL_nil (then_normal ?_)
     exact ⟨r25, Option.some.inj hj15, (FrD.pick hf.none hf rfl), hs.sel [] (by decide)⟩
    ·have hj15 := bif_f hj15 hb24
     refine sNo hf rfl rfl rfl (congrArg (fun b => some (Value.bool b)) hb24) rfl rfl rfl ?_; clear hf; intro a hf
     refine sNo hf rfl rfl rfl (congrArg (fun b => some (Value.bool b)) hb24) rfl rfl rfl ?_; clear hf; intro a hf
     refine sNo hf rfl rfl rfl (congrArg (fun b => some (Value.bool b)) hb24) rfl rfl rfl ?_; clear hf; intro a hf
     refine sY hf hs rfl rfl rfl (Y_pickF rfl (congrArg (fun b => some (Value.bool b)) hb24) rfl) ?_; clear hf; intro a hf
     refine sY hf hs rfl rfl rfl (Y_assign rfl rfl) ?_; clear hf; intro a hf
     refine wpO_nil ?_
     refine wpL_nil (then_normal ?_)
     exact ⟨false, Option.some.inj hj15, (FrD.pick hf.none hf rfl), hs.sel [] (by decide)⟩
   ·have hj15 := bif_f hj15 hb21
    refine sNo hf rfl rfl rfl (congrArg (fun b => some (Value.bool b)) hb21) rfl rfl rfl ?_; clear hf; intro a hf
    refine sNo hf rfl rfl rfl (congrArg (fun b => some (Value.bool b)) hb21) rfl rfl rfl ?_; clear hf; intro a hf
    refine sNo hf rfl rfl rfl (congrArg (fun b => some (Value.bool b)) hb21) rfl rfl rfl ?_; clear hf; intro a hf
    refine sY hf hs rfl rfl rfl (Y_pickF rfl (congrArg (fun b => some (Value.bool b)) hb21) rfl) ?_; clear hf; intro a hf
    refine sY hf hs rfl rfl rfl (Y_move rfl rfl) ?_; clear hf; intro a hf
    refine sNo hf rfl rfl rfl rfl rfl rfl rfl ?_; clear hf; intro a hf
    refine sNo hf rfl rfl rfl rfl rfl rfl rfl ?_; clear hf; intro a hf
    refine sNo hf rfl rfl rfl rfl rfl rfl rfl ?_; clear hf; intro a hf
    refine sY hf hs rfl rfl rfl (Y_pickF rfl rfl rfl) ?_; clear hf; intro a hf
    refine sY hf hs rfl rfl rfl (Y_assign rfl rfl) ?_; clear hf; intro a hf
    refine wpO_nil ?_
    refine wpL_nil (then_normal ?_)
    exact ⟨false, Option.some.inj hj15, (FrD.pick hf.none hf rfl), hs.sel [] (by decide)⟩
  ·have hj15 := bif_f hj15 hb18
   refine sNo hf rfl rfl rfl (congrArg (fun b => some (Value.bool b)) hb18) rfl rfl rfl ?_; clear hf; intro a hf
   refine sNo hf rfl rfl rfl (congrArg (fun b => some (Value.bool b)) hb18) rfl rfl rfl ?_; clear hf; intro a hf
   refine sNo hf rfl rfl rfl (congrArg (fun b => some (Value.bool b)) hb18) rfl rfl rfl ?_; clear hf; intro a hf
   refine sNo hf rfl rfl rfl (congrArg (fun b => some (Value.bool b)) hb18) rfl rfl rfl ?_; clear hf; intro a hf
   refine sNo hf rfl rfl rfl (congrArg (fun b => some (Value.bool b)) hb18) rfl rfl rfl ?_; clear hf; intro a hf
   refine sY hf hs rfl rfl rfl (Y_pickF rfl (congrArg (fun b => some (Value.bool b)) hb18) rfl) ?_; clear hf; intro a hf
   refine sY hf hs rfl rfl rfl (Y_move rfl rfl) ?_; clear hf; intro a hf
   refine sNo hf rfl rfl rfl rfl rfl rfl rfl ?_; clear hf; intro a hf
   refine sNo hf rfl rfl rfl rfl rfl rfl rfl ?_; clear hf; intro a hf
   refine sNo hf rfl rfl rfl rfl rfl rfl rfl ?_; clear hf; intro a hf
   refine sY hf hs rfl rfl rfl (Y_pickF rfl rfl rfl) ?_; clear hf; intro a hf
   refine sY hf hs rfl rfl rfl (Y_move rfl rfl) ?_; clear hf; intro a hf
   refine sNo hf rfl rfl rfl rfl rfl rfl rfl ?_; clear hf; intro a hf
   refine sNo hf rfl rfl rfl rfl rfl rfl rfl ?_; clear hf; intro a hf
   refine sNo hf rfl rfl rfl rfl rfl rfl rfl ?_; clear hf; intro a hf
   refine sY hf hs rfl rfl rfl (Y_pickF rfl rfl rfl) ?_; clear hf; intro a hf
   refine sY hf hs rfl rfl rfl (Y_assign rfl rfl) ?_; clear hf; intro a hf
   refine wpO_nil ?_
   refine wpL_nil (then_normal ?_)
   exact ⟨false, Option.some.inj hj15, (FrD.pick hf.none hf rfl), hs.sel [] (by decide)⟩
 ·rintro a w ⟨b13, hr_, hf, hs⟩
  subst hr_
  try dsimp only at hm
  obtain rfl := Option.some.inj hm
  refine wpL_ret (ret_tmp rfl hf rfl ?_)
  exact ⟨_, rfl, rfl, hs⟩

set_option maxRecDepth 100000 in
theorem spec_IsEventGraph_ok (F : Nat) (ab : GEventGraph) (ac : Option Addr) (ap ad : Nat) (ax : ap = ab.Places.length) (r : Bool) (W : World) (hm : spec_IsEventGraph F ab = some r) (aq : Rd W ac ((recs GPlace.cells) ab.Places)) :
  Calls Try.prog 128 [.agg #[.int .i64 ab.Events, .slice ac ap ad]].toArray W fun e w' => ∃ v, e = .returned v ∧ v = .bool r ∧ St [] W w' [] := by
 subst ax
 unfold spec_IsEventGraph at hm
 refine Calls.enter (N := 29) Try.func128 rfl rfl rfl (fun a hf => ?_)
 have hs := St.start W
 obtain ⟨w, hw_⟩ : ∃ w, w = W := ⟨W, rfl⟩
 clear hw_ w
 refine wpL_seq <| wpL_region ?_
 refine sBox hf hs rfl rfl rfl rfl rfl (cs := [.int .i64 ab.Events, .slice ac ab.Places.length ad]) rfl ?_; clear hf hs; intro a w b1 hs hf
 have hs : St [] W w [.blk b1 59 [.int .i64 ab.Events, .slice ac ab.Places.length ad]] := hs
 refine sY hf hs rfl rfl rfl (Y_assign rfl rfl) ?_; clear hf; intro a hf
 refine wpO_nil <| wpL_seq <| wpL_seq <| wpL_region ?_
 refine sY hf hs rfl rfl rfl (Y_assign rfl rfl) ?_; clear hf; intro a hf
 refine wpO_nil ?_
 obtain ⟨r22, hl23, hm⟩ := bind_some hm
 refine wpL_block (fun a w => Sum.inr () = r22 ∧ Fr a 29 [(1, .pointer (some ⟨b1, 0, none⟩))] ∧ St [] W w [.blk b1 59 [.int .i64 ab.Events, .slice ac ab.Places.length ad]]) ?_ ?_
 ·refine wpL_loop (fun n a w => ∃ x15 : Int, spec_IsEventGraph_L1 F ab n x15 = some r22 ∧ Fr a 29 [(1, .pointer (some ⟨b1, 0, none⟩)), (3, .int .i64 x15)] ∧ St [] W w [.blk b1 59 [.int .i64 ab.Events, .slice ac ab.Places.length ad]]) F ?_ ?_ ?_
  ·exact ⟨0, hl23, (FrD.pick (FrD.pick hf.none hf rfl) hf rfl), hs⟩
  ·rintro a w ⟨x15, h0_, -, -⟩; simp [spec_IsEventGraph_L1] at h0_
  ·rintro n25 a w ⟨x15, hm24, hf, hs⟩
   rw [spec_IsEventGraph_L1] at hm24
   refine wpL_seq <| wpL_seq <| wpL_region ?_
   refine sY hf hs rfl rfl rfl (Y_move rfl rfl) ?_; clear hf; intro a hf
   refine sY hf hs rfl rfl rfl (Y_fieldAddr rfl rfl fo59_1) ?_; clear hf; intro a hf
   refine sY hf hs rfl rfl rfl (Y_load_blk rfl rfl (i := 0) rfl rfl ag57) ?_; clear hf; intro a hf
   refine sY hf hs rfl rfl rfl (Y_lenH rfl rfl el57 rfl) ?_; clear hf; intro a hf
   refine sY hf hs rfl rfl rfl (Y_lss rfl rfl rfl) ?_; clear hf; intro a hf
   refine wpO_nil ?_
   refine wpL_cond hf rfl (fun hb26 => ?_) (fun hb26 => ?_)
   ·have hm24 := bif_t hm24 hb26
    refine wpL_skip <| wpL_seq <| wpL_block0 <| wpL_seq ?_
    refine wpL_draw (by kernel_rfl) (by kernel_rfl) hs ?_
    refine qY hf rfl rfl rfl (Y_fieldAddr rfl rfl fo59_1) ?_; clear hf; intro a hf
    refine qY hf rfl rfl rfl (Y_load_blk rfl rfl (i := 0) rfl rfl ag57) ?_; clear hf; intro a hf
    refine qY hf rfl rfl rfl (Y_move rfl rfl) ?_; clear hf; intro a hf
    obtain ⟨q27, hi28, hm24⟩ := bind_some hm24
    obtain ⟨hi28a, hi28b, hi28q⟩ := idx_some hi28
    refine qY hf rfl rfl rfl (Y_index rfl rfl rfl el57 ti127 (Rd.isAt (aq.at hs) (recs_at (s := 4) GPlace.len hi28q (j := 0) rfl)) hi28a hi28b) ?_; clear hf; intro a hf
    refine qY hf rfl rfl rfl (Y_load_rdS rfl rfl (us := [.int .i64 q27.From, .int .i64 q27.To, .int .i64 q27.Delay, .int .i64 q27.Tokens]) (fun w hs => aq.at hs) (fun j u hj => recs_at (s := 4) GPlace.len hi28q hj) (Nat.succ_pos _) ag127 ti127 rfl) ?_; clear hf; intro a hf
    refine qY hf rfl rfl rfl (Y_fieldAddr rfl rfl fo59_0) ?_; clear hf; intro a hf
    refine qY hf rfl rfl rfl (Y_load_blk rfl rfl (i := 0) rfl rfl ag2) ?_; clear hf; intro a hf
    obtain ⟨r29, hc30, hm24⟩ := bind_some hm24
    refine qCall hf rfl rfl rfl rfl (cap := []) rfl rfl en172 (v := .bool r29) (fun w hs => Calls.scal (spec_l11Place_ok F q27 ab.Events _ _ hc30)) ?_; clear hf; intro a hf
    refine qY hf rfl rfl rfl (Y_not rfl rfl) ?_; clear hf; intro a hf
    refine qNil ?_; clear hs; intro w hs
    refine wpL_cond hf rfl (fun hb31 => ?_) (fun hb31 => ?_)
    ·have hm24 := bif_t hm24 hb31
     refine wpL_seq <| wpL_region ?_
     refine sY hf hs rfl rfl rfl (Y_assign rfl rfl) ?_; clear hf; intro a hf
     refine wpO_nil ?_
     obtain rfl := Option.some.inj hm24
     try dsimp only at hm
     obtain rfl := Option.some.inj hm
     refine wpL_ret (Qb_ret (Ql_ret (Qb_ret (ret_tmp rfl hf rfl ?_))))
     exact ⟨_, rfl, rfl, hs.sel [] (by decide)⟩
    ·have hm24 := bif_f hm24 hb31
     refine wpL_skip ?_
     refine wpL_nil (Qb_normal ?_)
     refine wpL_region ?_
     refine sY hf hs rfl rfl rfl (Y_move rfl rfl) ?_; clear hf; intro a hf
     refine sY hf hs rfl rfl rfl (Y_add rfl rfl rfl) ?_; clear hf; intro a hf
     refine sY hf hs rfl rfl rfl (Y_assign rfl rfl) ?_; clear hf; intro a hf
     refine wpO_nil ?_
     refine wpL_nil (Ql_normal ?_)
     exact ⟨(IntKind.i64.wrap (x15 + 1)), hm24, (FrD.pick (FrD.pick hf.none hf rfl) hf rfl), hs⟩
   ·have hm24 := bif_f hm24 hb26
    refine wpL_exit (Ql_exit (Qb_exit ?_))
    exact ⟨Option.some.inj hm24, (FrD.pick hf.none hf rfl), hs⟩
 ·rintro a w ⟨hr_, hf, hs⟩
  subst hr_
  try dsimp only at hm
  refine wpL_seq ?_
  obtain ⟨r36, hj37, hm⟩ := bind_some hm
  refine wpL_cut (fun a w => ∃ b35 : Bool, b35 = r36 ∧ Fr a 29 [(2, .bool b35)] ∧ St [] W w []) ?_ ?_
  ·refine wpL_region ?_
   refine sY hf hs rfl rfl rfl (Y_fieldAddr rfl rfl fo59_0) ?_; clear hf; intro a hf
   refine sY hf hs rfl rfl rfl (Y_load_blk rfl rfl (i := 0) rfl rfl ag2) ?_; clear hf; intro a hf
   obtain ⟨r38, hc39, hj37⟩ := bind_some hj37
   refine sCall hf rfl rfl rfl rfl (cap := []) rfl rfl en115 (spec_l01In_ok F ab.Events 1 10 _ _ hc39) ?_; clear hf
   rintro _ w ⟨rfl, hs1⟩ a hf
   have hs : St [] W w [.blk b1 59 [.int .i64 ab.Events, .slice ac ab.Places.length ad]] := hs.ext hs1.below
   clear hs1
   refine sY hf hs rfl rfl rfl (Y_move rfl rfl) ?_; clear hf; intro a hf
   refine bsplit r38 (fun hb40 => ?_) (fun hb40 => ?_)
   ·have hj37 := bif_t hj37 hb40
    refine sYg hf hs rfl rfl rfl (congrArg (fun b => some (Value.bool b)) hb40) rfl rfl rfl (Y_fieldAddr rfl rfl fo59_1) ?_; clear hf; intro a hf
    refine sYg hf hs rfl rfl rfl (congrArg (fun b => some (Value.bool b)) hb40) rfl rfl rfl (Y_load_blk rfl rfl (i := 0) rfl rfl ag57) ?_; clear hf; intro a hf
    refine sYg hf hs rfl rfl rfl (congrArg (fun b => some (Value.bool b)) hb40) rfl rfl rfl (Y_lenH rfl rfl el57 rfl) ?_; clear hf; intro a hf
    refine sYg hf hs rfl rfl rfl (congrArg (fun b => some (Value.bool b)) hb40) rfl rfl rfl (Y_leq rfl rfl rfl) ?_; clear hf; intro a hf
    refine sY hf hs rfl rfl rfl (Y_pickT rfl (congrArg (fun b => some (Value.bool b)) hb40) rfl) ?_; clear hf; intro a hf
    refine sY hf hs rfl rfl rfl (Y_assign rfl rfl) ?_; clear hf; intro a hf
    refine wpO_nil ?_
    refine wpL_nil (then_normal ?_)
    exact ⟨(decide ((ab.Places.length : Int) ≤ 30)), Option.some.inj hj37, (FrD.pick hf.none hf rfl), hs.sel [] (by decide)⟩
   ·have hj37 := bif_f hj37 hb40
    refine sNo hf rfl rfl rfl (congrArg (fun b => some (Value.bool b)) hb40) rfl rfl rfl ?_; clear hf; intro a hf
    refine sNo hf rfl rfl rfl (congrArg (fun b => some (Value.bool b)) hb40) rfl rfl rfl ?_; clear hf; intro a hf
    refine sNo hf rfl rfl rfl (congrArg (fun b => some (Value.bool b)) hb40) rfl rfl rfl ?_; clear hf; intro a hf
    refine sNo hf rfl rfl rfl (congrArg (fun b => some (Value.bool b)) hb40) rfl rfl rfl ?_; clear hf; intro a hf
    refine sY hf hs rfl rfl rfl (Y_pickF rfl (congrArg (fun b => some (Value.bool b)) hb40) rfl) ?_; clear hf; intro a hf
    refine sY hf hs rfl rfl rfl (Y_assign rfl rfl) ?_; clear hf; intro a hf
    refine wpO_nil ?_
    refine wpL_nil (then_normal ?_)
    exact ⟨false, Option.some.inj hj37, (FrD.pick hf.none hf rfl), hs.sel [] (by decide)⟩
  ·rintro a w ⟨b35, hr_, hf, hs⟩
   subst hr_
   try dsimp only at hm
   obtain rfl := Option.some.inj hm
   refine wpL_ret (ret_tmp rfl hf rfl ?_)
   exact ⟨_, rfl, rfl, hs⟩

set_option maxRecDepth 100000 in
theorem spec_l11Own_ok (F : Nat) (ab : GEventGraph) (ac : Option Addr) (ap ad : Nat) (ax : ap = ab.Places.length) (r : GEventGraph) (W : World) (hm : spec_l11Own F ab = some r) (aq : Rd W ac ((recs GPlace.cells) ab.Places)) :
  Calls Try.prog 129 [.agg #[.int .i64 ab.Events, .slice ac ap ad]].toArray W fun e w' => ∃ v, e = .returned v ∧ ∃ A15, ∃ n16, ∃ c17, v = .agg #[.int .i64 r.Events, .slice A15 n16 c17] ∧ n16 = r.Places.length ∧ St [] W w' [.row A15 n16 c17 127 4 ((recs GPlace.cells) r.Places)] := by
 subst ax
 unfold spec_l11Own at hm
 refine Calls.enter (N := 10) Try.func129 rfl rfl rfl (fun a hf => ?_)
 have hs := St.start W
 obtain ⟨w, hw_⟩ : ∃ w, w = W := ⟨W, rfl⟩
 clear hw_ w
 refine wpL_seq <| wpL_region ?_
 refine sBox hf hs rfl rfl rfl rfl rfl (cs := [.int .i64 ab.Events, .slice ac ab.Places.length ad]) rfl ?_; clear hf hs; intro a w b1 hs hf
 have hs : St [] W w [.blk b1 59 [.int .i64 ab.Events, .slice ac ab.Places.length ad]] := hs
 refine sAlloc hf hs rfl rfl rfl rfl ti59 ?_; clear hf hs; intro a w b2 hs hf
 have hs : St [] W w [.blk b1 59 [.int .i64 ab.Events, .slice ac ab.Places.length ad], .blk b2 59 [.int .i64 0, .slice none 0 0]] := hs
 refine wpO_nil <| wpL_seq ?_
 refine wpL_drawM [.blk b1 59 [.int .i64 ab.Events, .slice ac ab.Places.length ad], .blk b2 59 [.int .i64 0, .slice none 0 0]] [7] (by kernel_rfl) hs ?_; clear hs; intro w hs
 have hs0 : St [] W w [.blk b1 59 [.int .i64 ab.Events, .slice ac ab.Places.length ad], .blk b2 59 [.int .i64 0, .slice none 0 0]] := hs
 refine mYp (i := 0) rfl (by kernel_rfl) (by kernel_rfl) hf rfl rfl rfl (fun _ => Y_fieldAddr rfl rfl fo59_0) ?_; clear hf; intro a hf
 refine mY (i := 1) [[]] rfl (by kernel_rfl) (by kernel_rfl) hf hs0 rfl rfl rfl (Y_load_blk rfl rfl (i := 0) rfl rfl ag2) ?_; clear hf; intro a hf
 refine mYp (i := 3) rfl (by kernel_rfl) (by kernel_rfl) hf rfl rfl rfl (fun _ => Y_fieldAddr rfl rfl fo59_1) ?_; clear hf; intro a hf
 refine mY (i := 4) [[]] rfl (by kernel_rfl) (by kernel_rfl) hf hs0 rfl rfl rfl (Y_load_blk rfl rfl (i := 0) rfl rfl ag57) ?_; clear hf; intro a hf
 refine mRun (i := 2) rfl (by kernel_rfl) ?_
 refine sEmpty hf hs rfl rfl rfl rfl el57 ti127 ?_; clear hf hs; intro a w A9 hs hf
 have hs : St [] W w [.blk b1 59 [.int .i64 ab.Events, .slice ac ab.Places.length ad], .blk b2 59 [.int .i64 0, .slice none 0 0], .row A9 0 0 127 4 ((recs GPlace.cells) ([] : List GPlace))] := hs
 have hs0 : St [] W w [.blk b1 59 [.int .i64 ab.Events, .slice ac ab.Places.length ad], .blk b2 59 [.int .i64 0, .slice none 0 0]] := hs.sel [0, 1] (by decide)
 refine wpO_nil ⟨Or.inr (fun _ => hs0), ?_⟩
 refine mRun (i := 5) rfl (by kernel_rfl) ?_
 obtain ⟨xs13, ha14, hm⟩ := bind_some hm
 refine sAppendG (i := 2) (xs := ([] : List GPlace)) (ys := ab.Places) (enc := (recs GPlace.cells)) hf hs rfl rfl rfl rfl rfl rfl rfl rfl rfl ha14 el57 ti127 rfl rfl rfl (aq.at hs) (recs_length GPlace.len) (recs_append GPlace.cells) (recs_one GPlace.one) ?_; clear hf hs; intro a w A11 c12 hs hf
 have hs : St [] W w [.blk b1 59 [.int .i64 ab.Events, .slice ac ab.Places.length ad], .blk b2 59 [.int .i64 0, .slice none 0 0], .row A11 xs13.length c12 127 4 ((recs GPlace.cells) xs13)] := hs
 have hs0 : St [] W w [.blk b1 59 [.int .i64 ab.Events, .slice ac ab.Places.length ad], .blk b2 59 [.int .i64 0, .slice none 0 0]] := hs.sel [0, 1] (by decide)
 refine wpO_nil ⟨Or.inr (fun _ => hs0), ?_⟩
 refine mYp (i := 6) rfl (by kernel_rfl) (by kernel_rfl) hf rfl rfl rfl (fun _ => Y_build (parts := [(0, .tmp 4), (1, .tmp 8)]) (vs := [.int .i64 ab.Events, .slice A11 xs13.length c12]) rfl rfl (run_build (parts := [(0, .int .i64 ab.Events), (1, .slice A11 xs13.length c12)]) (cells := [.int .i64 ab.Events, .slice A11 xs13.length c12]) (places := #[(0, 1), (1, 1)]) ti59 Try.underlying59 (fun w => by simp [go_sem]) rfl)) ?_; clear hf; intro a hf
 refine mRun (i := 7) rfl (by kernel_rfl) ?_
 refine sStore (i := 1) (us := [.int .i64 ab.Events, .slice A11 xs13.length c12]) hf hs rfl rfl rfl rfl rfl rfl ti59 rfl rfl rfl (Nat.le_of_ble_eq_true rfl) rfl ?_; clear hs; intro w hs
 have hs : St [] W w [.blk b1 59 [.int .i64 ab.Events, .slice ac ab.Places.length ad], .blk b2 59 [.int .i64 ab.Events, .slice A11 xs13.length c12], .row A11 xs13.length c12 127 4 ((recs GPlace.cells) xs13)] := hs
 refine wpO_nil ⟨Or.inl (by decide), ?_⟩
 refine mDone (by kernel_rfl) ?_
 clear hs0
 obtain rfl := Option.some.inj hm
 refine wpL_ret (ret_cell rfl hf rfl hs (i := 1) rfl ag59 ti59 rfl ?_)
 exact ⟨_, rfl, A11, xs13.length, c12, rfl, rfl, hs.sel [2] (by decide)⟩

set_option maxRecDepth 100000 in
theorem spec_ReverseGraph_ok (F : Nat) (ab : GEventGraph) (ac : Option Addr) (ap ad : Nat) (ax : ap = ab.Places.length) (r : GEventGraph × Int) (W : World) (hm : spec_ReverseGraph F ab = some r) (aq : Rd W ac ((recs GPlace.cells) ab.Places)) :
  Calls Try.prog 60 [.agg #[.int .i64 ab.Events, .slice ac ap ad]].toArray W fun e w' => ∃ v, e = .returned v ∧ ∃ A58, ∃ n59, ∃ c60, v = .tuple #[.agg #[.int .i64 r.1.Events, .slice A58 n59 c60], .int .i64 r.2] ∧ n59 = r.1.Places.length ∧ St [] W w' [.row A58 n59 c60 127 4 ((recs GPlace.cells) r.1.Places)] := by
 subst ax
 unfold spec_ReverseGraph at hm
 refine Calls.enter (N := 39) Try.func60 rfl rfl rfl (fun a hf => ?_)
 have hs := St.start W
 obtain ⟨w, hw_⟩ : ∃ w, w = W := ⟨W, rfl⟩
 clear hw_ w
 refine wpL_seq <| wpL_region ?_
 refine sBox hf hs rfl rfl rfl rfl rfl (cs := [.int .i64 ab.Events, .slice ac ab.Places.length ad]) rfl ?_; clear hf hs; intro a w b1 hs hf
 have hs : St [] W w [.blk b1 59 [.int .i64 ab.Events, .slice ac ab.Places.length ad]] := hs
 refine sAlloc hf hs rfl rfl rfl rfl ti59 ?_; clear hf hs; intro a w b2 hs hf
 have hs : St [] W w [.blk b1 59 [.int .i64 ab.Events, .slice ac ab.Places.length ad], .blk b2 59 [.int .i64 0, .slice none 0 0]] := hs
 refine sY hf hs rfl rfl rfl (Y_assign rfl rfl) ?_; clear hf; intro a hf
 refine wpO_nil <| wpL_seq <| wpL_seq <| wpL_region ?_
 refine sY hf hs rfl rfl rfl (Y_load_blkS rfl rfl (i := 0) rfl ag59 ti59 rfl) ?_; clear hf; intro a hf
 obtain ⟨r3, hc4, hm⟩ := bind_some hm
 refine sCall hf rfl rfl rfl rfl (cap := []) rfl rfl en128 (spec_IsEventGraph_ok F ab ac ab.Places.length ad rfl _ _ hc4 (aq.at hs)) ?_; clear hf
 rintro _ w ⟨rfl, hs1⟩ a hf
 have hs : St [] W w [.blk b1 59 [.int .i64 ab.Events, .slice ac ab.Places.length ad], .blk b2 59 [.int .i64 0, .slice none 0 0]] := hs.ext hs1.below
 clear hs1
 refine sY hf hs rfl rfl rfl (Y_not rfl rfl) ?_; clear hf; intro a hf
 refine wpO_nil ?_
 refine wpL_cond hf rfl (fun hb5 => ?_) (fun hb5 => ?_)
 ·have hm := bif_t hm hb5
  refine wpL_seq <| wpL_region ?_
  refine sY hf hs rfl rfl rfl (Y_build (parts := []) (vs := []) rfl rfl (run_build (parts := []) (cells := [.int .i64 0, .slice none 0 0]) (places := #[(0, 1), (1, 1)]) ti59 Try.underlying59 (fun w => by simp [go_sem]) rfl)) ?_; clear hf; intro a hf
  refine sStore (i := 1) (us := [.int .i64 0, .slice none 0 0]) hf hs rfl rfl rfl rfl rfl rfl ti59 rfl rfl rfl (Nat.le_of_ble_eq_true rfl) rfl ?_; clear hs; intro w hs
  have hs : St [] W w [.blk b1 59 [.int .i64 ab.Events, .slice ac ab.Places.length ad], .blk b2 59 [.int .i64 0, .slice none 0 0]] := hs
  refine sY hf hs rfl rfl rfl (Y_assign rfl rfl) ?_; clear hf; intro a hf
  refine wpO_nil ?_
  have hs : St [] W _ [.blk b1 59 [.int .i64 ab.Events, .slice ac ab.Places.length ad], .blk b2 59 [.int .i64 0, .slice none 0 0], .row none 0 0 127 4 ((recs GPlace.cells) ([] : List GPlace))] := hs.addNil 127 4
  obtain rfl := Option.some.inj hm
  refine wpL_ret (ret_cell_tmp rfl hf rfl rfl hs (i := 1) rfl ag59 ti59 rfl ?_)
  exact ⟨_, rfl, none, 0, 0, rfl, rfl, hs.sel [2] (by decide)⟩
 ·have hm := bif_f hm hb5
  refine wpL_skip <| wpL_seq <| wpL_region ?_
  refine sY hf hs rfl rfl rfl (Y_load_blkS rfl rfl (i := 0) rfl ag59 ti59 rfl) ?_; clear hf; intro a hf
  obtain ⟨r7, hc8, hm⟩ := bind_some hm
  refine sCall hf rfl rfl rfl rfl (cap := []) rfl rfl en129 (spec_l11Own_ok F ab ac ab.Places.length ad rfl _ _ hc8 (aq.at hs)) ?_; clear hf
  rintro _ w ⟨A9, n10, c11, rfl, hn12, hs1⟩ a hf
  have hs : St [] W w [.blk b1 59 [.int .i64 ab.Events, .slice ac ab.Places.length ad], .blk b2 59 [.int .i64 0, .slice none 0 0], .row A9 n10 c11 127 4 ((recs GPlace.cells) r7.Places)] := hs.join hs1
  clear hs1
  refine sAlloc hf hs rfl rfl rfl rfl ti59 ?_; clear hf hs; intro a w b13 hs hf
  have hs : St [] W w [.blk b1 59 [.int .i64 ab.Events, .slice ac ab.Places.length ad], .blk b2 59 [.int .i64 0, .slice none 0 0], .row A9 n10 c11 127 4 ((recs GPlace.cells) r7.Places), .blk b13 59 [.int .i64 0, .slice none 0 0]] := hs
  refine sStore (i := 3) (us := [.int .i64 r7.Events, .slice A9 n10 c11]) hf hs rfl rfl rfl rfl rfl rfl ti59 rfl rfl rfl (Nat.le_of_ble_eq_true rfl) rfl ?_; clear hs; intro w hs
  have hs : St [] W w [.blk b1 59 [.int .i64 ab.Events, .slice ac ab.Places.length ad], .blk b2 59 [.int .i64 0, .slice none 0 0], .row A9 n10 c11 127 4 ((recs GPlace.cells) r7.Places), .blk b13 59 [.int .i64 r7.Events, .slice A9 n10 c11]] := hs
  refine wpO_nil <| wpL_seq <| wpL_seq <| wpL_region ?_
  refine sY hf hs rfl rfl rfl (Y_assign rfl rfl) ?_; clear hf; intro a hf
  refine wpO_nil ?_
  obtain ⟨r46, hl47, hm⟩ := bind_some hm
  refine wpL_block (fun a w => ∃ xs44 : List GPlace, xs44 = r46 ∧ n10 = xs44.length ∧ Fr a 39 [(2, .pointer (some ⟨b2, 0, none⟩)), (4, .pointer (some ⟨b13, 0, none⟩))] ∧ St [] W w [.blk b2 59 [.int .i64 0, .slice none 0 0], .blk b13 59 [.int .i64 r7.Events, .slice A9 n10 c11], .row A9 n10 c11 127 4 ((recs GPlace.cells) xs44)]) ?_ ?_
  ·refine wpL_loop (fun n a w => ∃ xs33 : List GPlace, ∃ x35 : Int, spec_ReverseGraph_L1 F n xs33 x35 = some r46 ∧ n10 = xs33.length ∧ Fr a 39 [(2, .pointer (some ⟨b2, 0, none⟩)), (4, .pointer (some ⟨b13, 0, none⟩)), (5, .int .i64 x35)] ∧ St [] W w [.blk b2 59 [.int .i64 0, .slice none 0 0], .blk b13 59 [.int .i64 r7.Events, .slice A9 n10 c11], .row A9 n10 c11 127 4 ((recs GPlace.cells) xs33)]) F ?_ ?_ ?_
   ·exact ⟨r7.Places, 0, hl47, hn12, (FrD.pick (FrD.pick (FrD.pick hf.none hf rfl) hf rfl) hf rfl), hs.sel [1, 3, 2] (by decide)⟩
   ·rintro a w ⟨xs33, x35, h0_, -, -, -⟩; simp [spec_ReverseGraph_L1] at h0_
   ·rintro n49 a w ⟨xs33, x35, hm48, hn34, hf, hs⟩
    rw [spec_ReverseGraph_L1] at hm48
    refine wpL_seq <| wpL_seq <| wpL_region ?_
    refine sY hf hs rfl rfl rfl (Y_move rfl rfl) ?_; clear hf; intro a hf
    refine sY hf hs rfl rfl rfl (Y_fieldAddr rfl rfl fo59_1) ?_; clear hf; intro a hf
    refine sY hf hs rfl rfl rfl (Y_load_blk rfl rfl (i := 1) rfl rfl ag57) ?_; clear hf; intro a hf
    refine sY hf hs rfl rfl rfl (Y_lenH rfl rfl el57 hn34) ?_; clear hf; intro a hf
    refine sY hf hs rfl rfl rfl (Y_lss rfl rfl rfl) ?_; clear hf; intro a hf
    refine wpO_nil ?_
    refine wpL_cond hf rfl (fun hb50 => ?_) (fun hb50 => ?_)
    ·have hm48 := bif_t hm48 hb50
     refine wpL_skip <| wpL_seq <| wpL_block0 <| wpL_seq <| wpL_region ?_
     refine sY hf hs rfl rfl rfl (Y_fieldAddr rfl rfl fo59_1) ?_; clear hf; intro a hf
     refine sY hf hs rfl rfl rfl (Y_load_blk rfl rfl (i := 1) rfl rfl ag57) ?_; clear hf; intro a hf
     refine sY hf hs rfl rfl rfl (Y_move rfl rfl) ?_; clear hf; intro a hf
     obtain ⟨q51, hi52, hm48⟩ := bind_some hm48
     obtain ⟨hi52a, hi52b, hi52q⟩ := idx_some hi52
     refine sY hf hs rfl rfl rfl (Y_index rfl rfl rfl el57 ti127 (Rd.isAt (hs.rd (i := 2) rfl) (recs_at (s := 4) GPlace.len hi52q (j := 0) rfl)) hi52a (ltn hn34 hi52b)) ?_; clear hf; intro a hf
     refine sY hf hs rfl rfl rfl (Y_load_rdS rfl rfl (us := [.int .i64 q51.From, .int .i64 q51.To, .int .i64 q51.Delay, .int .i64 q51.Tokens]) (fun w hs => hs.rd (i := 2) rfl) (fun j u hj => recs_at (s := 4) GPlace.len hi52q hj) (Nat.succ_pos _) ag127 ti127 rfl) ?_; clear hf; intro a hf
     refine sAlloc hf hs rfl rfl rfl rfl ti127 ?_; clear hf hs; intro a w b53 hs hf
     have hs : St [] W w [.blk b2 59 [.int .i64 0, .slice none 0 0], .blk b13 59 [.int .i64 r7.Events, .slice A9 n10 c11], .row A9 n10 c11 127 4 ((recs GPlace.cells) xs33), .blk b53 127 [.int .i64 0, .int .i64 0, .int .i64 0, .int .i64 0]] := hs
     refine sStore (i := 3) (us := [.int .i64 q51.From, .int .i64 q51.To, .int .i64 q51.Delay, .int .i64 q51.Tokens]) hf hs rfl rfl rfl rfl rfl rfl ti127 rfl rfl rfl (Nat.le_of_ble_eq_true rfl) rfl ?_; clear hs; intro w hs
     have hs : St [] W w [.blk b2 59 [.int .i64 0, .slice none 0 0], .blk b13 59 [.int .i64 r7.Events, .slice A9 n10 c11], .row A9 n10 c11 127 4 ((recs GPlace.cells) xs33), .blk b53 127 [.int .i64 q51.From, .int .i64 q51.To, .int .i64 q51.Delay, .int .i64 q51.Tokens]] := hs
     refine wpO_nil <| wpL_region ?_
     refine sY hf hs rfl rfl rfl (Y_fieldAddr rfl rfl fo59_1) ?_; clear hf; intro a hf
     refine sY hf hs rfl rfl rfl (Y_load_blk rfl rfl (i := 1) rfl rfl ag57) ?_; clear hf; intro a hf
     refine sY hf hs rfl rfl rfl (Y_move rfl rfl) ?_; clear hf; intro a hf
     refine sY hf hs rfl rfl rfl (Y_fieldAddr rfl rfl fo127_1) ?_; clear hf; intro a hf
     refine sY hf hs rfl rfl rfl (Y_load_blk rfl rfl (i := 3) rfl rfl ag2) ?_; clear hf; intro a hf
     refine sY hf hs rfl rfl rfl (Y_fieldAddr rfl rfl fo127_0) ?_; clear hf; intro a hf
     refine sY hf hs rfl rfl rfl (Y_load_blk rfl rfl (i := 3) rfl rfl ag2) ?_; clear hf; intro a hf
     refine sY hf hs rfl rfl rfl (Y_fieldAddr rfl rfl fo127_2) ?_; clear hf; intro a hf
     refine sY hf hs rfl rfl rfl (Y_load_blk rfl rfl (i := 3) rfl rfl ag2) ?_; clear hf; intro a hf
     refine sY hf hs rfl rfl rfl (Y_fieldAddr rfl rfl fo127_3) ?_; clear hf; intro a hf
     refine sY hf hs rfl rfl rfl (Y_load_blk rfl rfl (i := 3) rfl rfl ag2) ?_; clear hf; intro a hf
     refine sY hf hs rfl rfl rfl (Y_build (parts := [(0, .tmp 29), (1, .tmp 31), (2, .tmp 33), (3, .tmp 35)]) (vs := [.int .i64 q51.To, .int .i64 q51.From, .int .i64 q51.Delay, .int .i64 q51.Tokens]) rfl rfl (run_build (parts := [(0, .int .i64 q51.To), (1, .int .i64 q51.From), (2, .int .i64 q51.Delay), (3, .int .i64 q51.Tokens)]) (cells := [.int .i64 q51.To, .int .i64 q51.From, .int .i64 q51.Delay, .int .i64 q51.Tokens]) (places := #[(0, 1), (1, 1), (2, 1), (3, 1)]) ti127 Try.underlying127 (fun w => by simp [go_sem]) rfl)) ?_; clear hf; intro a hf
     obtain ⟨q54, hi55, hm48⟩ := bind_some hm48
     obtain ⟨hi55a, hi55b, hi55q⟩ := idx_some hi55
     refine sY hf hs rfl rfl rfl (Y_index rfl rfl rfl el57 ti127 (Rd.isAt (hs.rd (i := 2) rfl) (recs_at (s := 4) GPlace.len hi55q (j := 0) rfl)) hi55a (ltn hn34 hi55b)) ?_; clear hf; intro a hf
     obtain ⟨xs56, hu57, hm48⟩ := bind_some hm48
     refine sStoreL (i := 2) (us := [.int .i64 q51.To, .int .i64 q51.From, .int .i64 q51.Delay, .int .i64 q51.Tokens]) (enc := (recs GPlace.cells)) hf hs rfl rfl rfl rfl rfl rfl hn34 hu57 ti127 rfl rfl rfl rfl rfl (recs_length GPlace.len) (recs_set (s := 4) GPlace.len (GPlace.mk q51.To q51.From q51.Delay q51.Tokens)) ?_; clear hs; intro w hs
     have hs : St [] W w [.blk b2 59 [.int .i64 0, .slice none 0 0], .blk b13 59 [.int .i64 r7.Events, .slice A9 n10 c11], .row A9 n10 c11 127 4 ((recs GPlace.cells) xs56), .blk b53 127 [.int .i64 q51.From, .int .i64 q51.To, .int .i64 q51.Delay, .int .i64 q51.Tokens]] := hs
     refine wpO_nil ?_
     refine wpL_nil (Qb_normal ?_)
     refine wpL_region ?_
     refine sY hf hs rfl rfl rfl (Y_move rfl rfl) ?_; clear hf; intro a hf
     refine sY hf hs rfl rfl rfl (Y_add rfl rfl rfl) ?_; clear hf; intro a hf
     refine sY hf hs rfl rfl rfl (Y_assign rfl rfl) ?_; clear hf; intro a hf
     refine wpO_nil ?_
     refine wpL_nil (Ql_normal ?_)
     exact ⟨xs56, (IntKind.i64.wrap (x35 + 1)), hm48, ((hn34).trans (upd_len hu57).symm), (FrD.pick (FrD.pick (FrD.pick hf.none hf rfl) hf rfl) hf rfl), hs.sel [0, 1, 2] (by decide)⟩
    ·have hm48 := bif_f hm48 hb50
     refine wpL_exit (Ql_exit (Qb_exit ?_))
     exact ⟨xs33, Option.some.inj hm48, hn34, (FrD.pick (FrD.pick hf.none hf rfl) hf rfl), hs⟩
  ·rintro a w ⟨xs44, hr_, hn45, hf, hs⟩
   subst hr_
   try dsimp only at hm
   refine wpL_seq <| wpL_region ?_
   refine sY hf hs rfl rfl rfl (Y_load_blkS rfl rfl (i := 1) rfl ag59 ti59 rfl) ?_; clear hf; intro a hf
   refine sStore (i := 0) (us := [.int .i64 r7.Events, .slice A9 n10 c11]) hf hs rfl rfl rfl rfl rfl rfl ti59 rfl rfl rfl (Nat.le_of_ble_eq_true rfl) rfl ?_; clear hs; intro w hs
   have hs : St [] W w [.blk b2 59 [.int .i64 r7.Events, .slice A9 n10 c11], .blk b13 59 [.int .i64 r7.Events, .slice A9 n10 c11], .row A9 n10 c11 127 4 ((recs GPlace.cells) xs44)] := hs
   refine sY hf hs rfl rfl rfl (Y_assign rfl rfl) ?_; clear hf; intro a hf
   refine wpO_nil ?_
   obtain rfl := Option.some.inj hm
   refine wpL_ret (ret_cell_tmp rfl hf rfl rfl hs (i := 0) rfl ag59 ti59 rfl ?_)
   exact ⟨_, rfl, A9, n10, c11, rfl, hn45, hs.sel [2] (by decide)⟩

set_option maxRecDepth 100000 in
theorem spec_DrawStretchGraph_ok (F : Nat) (aa : List Int) (ag : Option Addr) (aL ah : Nat) (aP : aL = aa.length) (r : GEventGraph × Int) (W : World) (hm : spec_DrawStretchGraph F aa = some r) (aG : Rd W ag (bytes aa)) :
  Calls Try.prog 61 [.slice ag aL ah].toArray W fun e w' => ∃ v, e = .returned v ∧ ∃ A27, ∃ n28, ∃ c29, v = .tuple #[.agg #[.int .i64 r.1.Events, .slice A27 n28 c29], .int .i64 r.2] ∧ n28 = r.1.Places.length ∧ St [] W w' [.row A27 n28 c29 127 4 ((recs GPlace.cells) r.1.Places)] := by
 subst aP
 unfold spec_DrawStretchGraph at hm
 refine Calls.enter (N := 21) Try.func61 rfl rfl rfl (fun a hf => ?_)
 have hs := St.start W
 obtain ⟨w, hw_⟩ : ∃ w, w = W := ⟨W, rfl⟩
 clear hw_ w
 refine wpL_seq <| wpL_region ?_
 refine sAlloc hf hs rfl rfl rfl rfl ti59 ?_; clear hf hs; intro a w b1 hs hf
 have hs : St [] W w [.blk b1 59 [.int .i64 0, .slice none 0 0]] := hs
 refine sY hf hs rfl rfl rfl (Y_assign rfl rfl) ?_; clear hf; intro a hf
 refine wpO_nil <| wpL_seq <| wpL_region ?_
 refine sY hf hs rfl rfl rfl (Y_move rfl rfl) ?_; clear hf; intro a hf
 obtain ⟨r2, hc3, hm⟩ := bind_some hm
 refine sCall hf rfl rfl rfl rfl (cap := []) rfl rfl en101 (spec_l01From_ok F aa ag aa.length ah rfl _ _ hc3 (aG.at hs)) ?_; clear hf
 rintro _ w ⟨b4, rfl, hs1⟩ a hf
 have hs : St [] W w [.blk b1 59 [.int .i64 0, .slice none 0 0], .blk b4 145 [.slice ag aa.length ah, .int .i64 r2.1, .int .i64 r2.2]] := hs.join hs1
 clear hs1
 refine sY hf hs rfl rfl rfl (Y_assign rfl rfl) ?_; clear hf; intro a hf
 refine wpO_nil <| wpL_seq <| wpL_region ?_
 refine sY hf hs rfl rfl rfl (Y_move rfl rfl) ?_; clear hf; intro a hf
 obtain ⟨r5, hc6, hm⟩ := bind_some hm
 refine sCall hf rfl rfl rfl rfl (cap := []) rfl rfl en125 (spec_l11Draw_ok F b4 aa ag aa.length ah rfl r2.1 r2.2 _ _ hc6 (aG.pass hs [1]) (hs.sel [1] (by decide)).rebase) ?_; clear hf
 rintro _ w ⟨A7, n8, c9, rfl, hn10, hs1⟩ a hf
 have hs : St [] W w [.blk b1 59 [.int .i64 0, .slice none 0 0], .row A7 n8 c9 127 4 ((recs GPlace.cells) r5.1.Places), .blk b4 145 [.slice ag aa.length ah, .int .i64 r5.2.1, .int .i64 r5.2.2]] := St.mutTail (La := [.blk b1 59 [.int .i64 0, .slice none 0 0]]) (Lb := [.blk b4 145 [.slice ag aa.length ah, .int .i64 r2.1, .int .i64 r2.2]]) (hs.sel [0, 1] (by decide)) hs1
 clear hs1
 refine sAlloc hf hs rfl rfl rfl rfl ti59 ?_; clear hf hs; intro a w b11 hs hf
 have hs : St [] W w [.blk b1 59 [.int .i64 0, .slice none 0 0], .row A7 n8 c9 127 4 ((recs GPlace.cells) r5.1.Places), .blk b4 145 [.slice ag aa.length ah, .int .i64 r5.2.1, .int .i64 r5.2.2], .blk b11 59 [.int .i64 0, .slice none 0 0]] := hs
 refine sStore (i := 3) (us := [.int .i64 r5.1.Events, .slice A7 n8 c9]) hf hs rfl rfl rfl rfl rfl rfl ti59 rfl rfl rfl (Nat.le_of_ble_eq_true rfl) rfl ?_; clear hs; intro w hs
 have hs : St [] W w [.blk b1 59 [.int .i64 0, .slice none 0 0], .row A7 n8 c9 127 4 ((recs GPlace.cells) r5.1.Places), .blk b4 145 [.slice ag aa.length ah, .int .i64 r5.2.1, .int .i64 r5.2.2], .blk b11 59 [.int .i64 r5.1.Events, .slice A7 n8 c9]] := hs
 refine wpO_nil <| wpL_seq <| wpL_seq <| wpL_region ?_
 refine sY hf hs rfl rfl rfl (Y_move rfl rfl) ?_; clear hf; intro a hf
 obtain ⟨r12, hc13, hm⟩ := bind_some hm
 refine sCall hf rfl rfl rfl rfl (cap := []) rfl rfl en107 (spec_l01Next_ok F b4 aa ag aa.length ah rfl r5.2.1 r5.2.2 8 _ _ hc13 (aG.pass hs [2]) (hs.sel [2] (by decide)).rebase) ?_; clear hf
 rintro _ w ⟨rfl, hs1⟩ a hf
 have hs : St [] W w [.blk b1 59 [.int .i64 0, .slice none 0 0], .row A7 n8 c9 127 4 ((recs GPlace.cells) r5.1.Places), .blk b11 59 [.int .i64 r5.1.Events, .slice A7 n8 c9], .blk b4 145 [.slice ag aa.length ah, .int .i64 r12.2.1, .int .i64 r12.2.2]] := St.mutTail (La := [.blk b1 59 [.int .i64 0, .slice none 0 0], .row A7 n8 c9 127 4 ((recs GPlace.cells) r5.1.Places), .blk b11 59 [.int .i64 r5.1.Events, .slice A7 n8 c9]]) (Lb := [.blk b4 145 [.slice ag aa.length ah, .int .i64 r5.2.1, .int .i64 r5.2.2]]) (hs.sel [0, 1, 3, 2] (by decide)) hs1
 clear hs1
 refine sY hf hs rfl rfl rfl (Y_eql rfl rfl rfl) ?_; clear hf; intro a hf
 refine wpO_nil ?_
 refine wpL_cond hf rfl (fun hb14 => ?_) (fun hb14 => ?_)
 ·have hm := bif_t hm hb14
  refine wpL_seq ?_
  refine wpL_drawM [.blk b1 59 [.int .i64 0, .slice none 0 0], .row A7 n8 c9 127 4 ((recs GPlace.cells) r5.1.Places), .blk b11 59 [.int .i64 r5.1.Events, .slice A7 n8 c9]] [4] (by kernel_rfl) hs ?_; clear hs; intro w hs
  have hs0 : St [] W w [.blk b1 59 [.int .i64 0, .slice none 0 0], .row A7 n8 c9 127 4 ((recs GPlace.cells) r5.1.Places), .blk b11 59 [.int .i64 r5.1.Events, .slice A7 n8 c9]] := hs.sel [0, 1, 2] (by decide)
  refine mY (i := 0) [[]] rfl (by kernel_rfl) (by kernel_rfl) hf hs0 rfl rfl rfl (Y_load_blkS rfl rfl (i := 2) rfl ag59 ti59 rfl) ?_; clear hf; intro a hf
  refine mYp (i := 1) rfl (by kernel_rfl) (by kernel_rfl) hf rfl rfl rfl (fun _ => Y_move rfl rfl) ?_; clear hf; intro a hf
  refine mRun (i := 2) rfl (by kernel_rfl) ?_
  refine sBuildSlice (parts := [(0, .const (.int .i64 0)), (1, .const (.int .i64 1000)), (2, .const (.int .i64 1001)), (3, .const (.int .i64 100))]) (vs := [.int .i64 0, .int .i64 1000, .int .i64 1001, .int .i64 100]) (cells := [.int .i64 0, .int .i64 1000, .int .i64 1001, .int .i64 100]) hf hs rfl rfl rfl rfl rfl el23 ti2 rfl rfl rfl rfl ?_; clear hf hs; intro a w A19 hs hA20 hf
  have hs : St [] W w [.blk b1 59 [.int .i64 0, .slice none 0 0], .row A7 n8 c9 127 4 ((recs GPlace.cells) r5.1.Places), .blk b11 59 [.int .i64 r5.1.Events, .slice A7 n8 c9], .blk b4 145 [.slice ag aa.length ah, .int .i64 r12.2.1, .int .i64 r12.2.2], .row A19 4 4 2 1 (ints ([0, 1000, 1001, 100]))] := hs
  have hs0 : St [] W w [.blk b1 59 [.int .i64 0, .slice none 0 0], .row A7 n8 c9 127 4 ((recs GPlace.cells) r5.1.Places), .blk b11 59 [.int .i64 r5.1.Events, .slice A7 n8 c9]] := hs.sel [0, 1, 2] (by decide)
  refine wpO_nil ⟨Or.inr (fun _ => hs0), ?_⟩
  refine mRun (i := 3) rfl (by kernel_rfl) ?_
  obtain ⟨r21, hc22, hm⟩ := bind_some hm
  refine sCall hf rfl rfl rfl rfl (cap := []) rfl rfl en114 (spec_l01Pick_ok F b4 aa ag aa.length ah rfl r12.2.1 r12.2.2 ([0, 1000, 1001, 100]) A19 4 4 rfl _ _ hc22 (aG.pass hs [3]) (hs.keepR (i := 4) rfl [3] (by decide)) (hs.sel [3] (by decide)).rebase) ?_; clear hf
  rintro _ w ⟨rfl, hs1⟩ a hf
  have hs : St [] W w [.blk b1 59 [.int .i64 0, .slice none 0 0], .row A7 n8 c9 127 4 ((recs GPlace.cells) r5.1.Places), .blk b11 59 [.int .i64 r5.1.Events, .slice A7 n8 c9], .row A19 4 4 2 1 (ints ([0, 1000, 1001, 100])), .blk b4 145 [.slice ag aa.length ah, .int .i64 r21.2.1, .int .i64 r21.2.2]] := St.mutTail (La := [.blk b1 59 [.int .i64 0, .slice none 0 0], .row A7 n8 c9 127 4 ((recs GPlace.cells) r5.1.Places), .blk b11 59 [.int .i64 r5.1.Events, .slice A7 n8 c9], .row A19 4 4 2 1 (ints ([0, 1000, 1001, 100]))]) (Lb := [.blk b4 145 [.slice ag aa.length ah, .int .i64 r12.2.1, .int .i64 r12.2.2]]) (hs.sel [0, 1, 2, 4, 3] (by decide)) hs1
  clear hs1
  have hs0 : St [] W w [.blk b1 59 [.int .i64 0, .slice none 0 0], .row A7 n8 c9 127 4 ((recs GPlace.cells) r5.1.Places), .blk b11 59 [.int .i64 r5.1.Events, .slice A7 n8 c9]] := hs.sel [0, 1, 2] (by decide)
  refine wpO_nil ⟨Or.inr (fun _ => hs0), ?_⟩
  refine mRun (i := 4) rfl (by kernel_rfl) ?_
  refine sStore (i := 0) (us := [.int .i64 r5.1.Events, .slice A7 n8 c9]) hf hs rfl rfl rfl rfl rfl rfl ti59 rfl rfl rfl (Nat.le_of_ble_eq_true rfl) rfl ?_; clear hs; intro w hs
  have hs : St [] W w [.blk b1 59 [.int .i64 r5.1.Events, .slice A7 n8 c9], .row A7 n8 c9 127 4 ((recs GPlace.cells) r5.1.Places), .blk b11 59 [.int .i64 r5.1.Events, .slice A7 n8 c9], .row A19 4 4 2 1 (ints ([0, 1000, 1001, 100])), .blk b4 145 [.slice ag aa.length ah, .int .i64 r21.2.1, .int .i64 r21.2.2]] := hs
  refine wpO_nil ⟨Or.inl (by decide), ?_⟩
  refine mYp (i := 5) rfl (by kernel_rfl) (by kernel_rfl) hf rfl rfl rfl (fun _ => Y_assign rfl rfl) ?_; clear hf; intro a hf
  refine mDone (by kernel_rfl) ?_
  clear hs0
  obtain rfl := Option.some.inj hm
  refine wpL_ret (ret_cell_tmp rfl hf rfl rfl hs (i := 0) rfl ag59 ti59 rfl ?_)
  exact ⟨_, rfl, A7, n8, c9, rfl, hn10, hs.sel [1] (by decide)⟩
 ·have hm := bif_f hm hb14
  refine wpL_skip <| wpL_seq ?_
  refine wpL_drawM [.blk b1 59 [.int .i64 0, .slice none 0 0], .row A7 n8 c9 127 4 ((recs GPlace.cells) r5.1.Places), .blk b11 59 [.int .i64 r5.1.Events, .slice A7 n8 c9]] [4] (by kernel_rfl) hs ?_; clear hs; intro w hs
  have hs0 : St [] W w [.blk b1 59 [.int .i64 0, .slice none 0 0], .row A7 n8 c9 127 4 ((recs GPlace.cells) r5.1.Places), .blk b11 59 [.int .i64 r5.1.Events, .slice A7 n8 c9]] := hs.sel [0, 1, 2] (by decide)
  refine mY (i := 0) [[]] rfl (by kernel_rfl) (by kernel_rfl) hf hs0 rfl rfl rfl (Y_load_blkS rfl rfl (i := 2) rfl ag59 ti59 rfl) ?_; clear hf; intro a hf
  refine mYp (i := 1) rfl (by kernel_rfl) (by kernel_rfl) hf rfl rfl rfl (fun _ => Y_move rfl rfl) ?_; clear hf; intro a hf
  refine mRun (i := 2) rfl (by kernel_rfl) ?_
  obtain ⟨r25, hc26, hm⟩ := bind_some hm
  refine sCall hf rfl rfl rfl rfl (cap := []) rfl rfl en107 (spec_l01Next_ok F b4 aa ag aa.length ah rfl r12.2.1 r12.2.2 9 _ _ hc26 (aG.pass hs [3]) (hs.sel [3] (by decide)).rebase) ?_; clear hf
  rintro _ w ⟨rfl, hs1⟩ a hf
  have hs : St [] W w [.blk b1 59 [.int .i64 0, .slice none 0 0], .row A7 n8 c9 127 4 ((recs GPlace.cells) r5.1.Places), .blk b11 59 [.int .i64 r5.1.Events, .slice A7 n8 c9], .blk b4 145 [.slice ag aa.length ah, .int .i64 r25.2.1, .int .i64 r25.2.2]] := St.mutTail (La := [.blk b1 59 [.int .i64 0, .slice none 0 0], .row A7 n8 c9 127 4 ((recs GPlace.cells) r5.1.Places), .blk b11 59 [.int .i64 r5.1.Events, .slice A7 n8 c9]]) (Lb := [.blk b4 145 [.slice ag aa.length ah, .int .i64 r12.2.1, .int .i64 r12.2.2]]) (hs.sel [0, 1, 2, 3] (by decide)) hs1
  clear hs1
  have hs0 : St [] W w [.blk b1 59 [.int .i64 0, .slice none 0 0], .row A7 n8 c9 127 4 ((recs GPlace.cells) r5.1.Places), .blk b11 59 [.int .i64 r5.1.Events, .slice A7 n8 c9]] := hs.sel [0, 1, 2] (by decide)
  refine wpO_nil ⟨Or.inr (fun _ => hs0), ?_⟩
  refine mYp (i := 3) rfl (by kernel_rfl) (by kernel_rfl) hf rfl rfl rfl (fun _ => Y_add rfl rfl rfl) ?_; clear hf; intro a hf
  refine mRun (i := 4) rfl (by kernel_rfl) ?_
  refine sStore (i := 0) (us := [.int .i64 r5.1.Events, .slice A7 n8 c9]) hf hs rfl rfl rfl rfl rfl rfl ti59 rfl rfl rfl (Nat.le_of_ble_eq_true rfl) rfl ?_; clear hs; intro w hs
  have hs : St [] W w [.blk b1 59 [.int .i64 r5.1.Events, .slice A7 n8 c9], .row A7 n8 c9 127 4 ((recs GPlace.cells) r5.1.Places), .blk b11 59 [.int .i64 r5.1.Events, .slice A7 n8 c9], .blk b4 145 [.slice ag aa.length ah, .int .i64 r25.2.1, .int .i64 r25.2.2]] := hs
  refine wpO_nil ⟨Or.inl (by decide), ?_⟩
  refine mYp (i := 5) rfl (by kernel_rfl) (by kernel_rfl) hf rfl rfl rfl (fun _ => Y_assign rfl rfl) ?_; clear hf; intro a hf
  refine mDone (by kernel_rfl) ?_
  clear hs0
  obtain rfl := Option.some.inj hm
  refine wpL_ret (ret_cell_tmp rfl hf rfl rfl hs (i := 0) rfl ag59 ti59 rfl ?_)
  exact ⟨_, rfl, A7, n8, c9, rfl, hn10, hs.sel [1] (by decide)⟩

set_option maxRecDepth 100000 in
theorem impl_checkedGraph_ok (F : Nat) (ab : GEventGraph) (ac : Option Addr) (ap ad : Nat) (ax : ap = ab.Places.length) (r : GEventGraph × Int) (W : World) (hm : impl_checkedGraph F ab = some r) (aq : Rd W ac ((recs GPlace.cells) ab.Places)) :
  Calls Try.prog 127 [.agg #[.int .i64 ab.Events, .slice ac ap ad]].toArray W fun e w' => ∃ v, e = .returned v ∧ ∃ A6, ∃ n7, ∃ c8, v = .tuple #[.agg #[.int .i64 r.1.Events, .slice A6 n7 c8], .int .i64 r.2] ∧ n7 = r.1.Places.length ∧ Al ac ap ad ab.Places A6 n7 c8 r.1.Places ∧ St [] W w' [] := by
 subst ax
 unfold impl_checkedGraph at hm
 refine Calls.enter (N := 9) Try.func127 rfl rfl rfl (fun a hf => ?_)
 have hs := St.start W
 obtain ⟨w, hw_⟩ : ∃ w, w = W := ⟨W, rfl⟩
 clear hw_ w
 refine wpL_seq <| wpL_region ?_
 refine sBox hf hs rfl rfl rfl rfl rfl (cs := [.int .i64 ab.Events, .slice ac ab.Places.length ad]) rfl ?_; clear hf hs; intro a w b1 hs hf
 have hs : St [] W w [.blk b1 59 [.int .i64 ab.Events, .slice ac ab.Places.length ad]] := hs
 refine sAlloc hf hs rfl rfl rfl rfl ti59 ?_; clear hf hs; intro a w b2 hs hf
 have hs : St [] W w [.blk b1 59 [.int .i64 ab.Events, .slice ac ab.Places.length ad], .blk b2 59 [.int .i64 0, .slice none 0 0]] := hs
 refine sY hf hs rfl rfl rfl (Y_assign rfl rfl) ?_; clear hf; intro a hf
 refine wpO_nil <| wpL_seq <| wpL_seq <| wpL_region ?_
 refine sY hf hs rfl rfl rfl (Y_load_blkS rfl rfl (i := 0) rfl ag59 ti59 rfl) ?_; clear hf; intro a hf
 obtain ⟨r3, hc4, hm⟩ := bind_some hm
 refine sCall hf rfl rfl rfl rfl (cap := []) rfl rfl en51 (impl_IsEventGraph_ok F ab ac ab.Places.length ad rfl _ _ hc4 (aq.at hs)) ?_; clear hf
 rintro _ w ⟨rfl, hs1⟩ a hf
 have hs : St [] W w [.blk b1 59 [.int .i64 ab.Events, .slice ac ab.Places.length ad], .blk b2 59 [.int .i64 0, .slice none 0 0]] := hs.ext hs1.below
 clear hs1
 refine sY hf hs rfl rfl rfl (Y_not rfl rfl) ?_; clear hf; intro a hf
 refine wpO_nil ?_
 refine wpL_cond hf rfl (fun hb5 => ?_) (fun hb5 => ?_)
 ·have hm := bif_t hm hb5
  refine wpL_seq <| wpL_region ?_
  refine sY hf hs rfl rfl rfl (Y_build (parts := []) (vs := []) rfl rfl (run_build (parts := []) (cells := [.int .i64 0, .slice none 0 0]) (places := #[(0, 1), (1, 1)]) ti59 Try.underlying59 (fun w => by simp [go_sem]) rfl)) ?_; clear hf; intro a hf
  refine sStore (i := 1) (us := [.int .i64 0, .slice none 0 0]) hf hs rfl rfl rfl rfl rfl rfl ti59 rfl rfl rfl (Nat.le_of_ble_eq_true rfl) rfl ?_; clear hs; intro w hs
  have hs : St [] W w [.blk b1 59 [.int .i64 ab.Events, .slice ac ab.Places.length ad], .blk b2 59 [.int .i64 0, .slice none 0 0]] := hs
  refine sY hf hs rfl rfl rfl (Y_assign rfl rfl) ?_; clear hf; intro a hf
  refine wpO_nil ?_
  obtain rfl := Option.some.inj hm
  refine wpL_ret (ret_cell_tmp rfl hf rfl rfl hs (i := 1) rfl ag59 ti59 rfl ?_)
  exact ⟨_, rfl, none, 0, 0, rfl, rfl, .inr ⟨rfl, rfl, rfl, rfl⟩, hs.sel [] (by decide)⟩
 ·have hm := bif_f hm hb5
  refine wpL_skip <| wpL_seq <| wpL_region ?_
  refine sY hf hs rfl rfl rfl (Y_load_blkS rfl rfl (i := 0) rfl ag59 ti59 rfl) ?_; clear hf; intro a hf
  refine sStore (i := 1) (us := [.int .i64 ab.Events, .slice ac ab.Places.length ad]) hf hs rfl rfl rfl rfl rfl rfl ti59 rfl rfl rfl (Nat.le_of_ble_eq_true rfl) rfl ?_; clear hs; intro w hs
  have hs : St [] W w [.blk b1 59 [.int .i64 ab.Events, .slice ac ab.Places.length ad], .blk b2 59 [.int .i64 ab.Events, .slice ac ab.Places.length ad]] := hs
  refine sY hf hs rfl rfl rfl (Y_assign rfl rfl) ?_; clear hf; intro a hf
  refine wpO_nil ?_
  obtain rfl := Option.some.inj hm
  refine wpL_ret (ret_cell_tmp rfl hf rfl rfl hs (i := 1) rfl ag59 ti59 rfl ?_)
  exact ⟨_, rfl, ac, ab.Places.length, ad, rfl, rfl, .inl ⟨rfl, rfl, rfl, rfl⟩, hs.sel [] (by decide)⟩

set_option maxRecDepth 100000 in
theorem impl_StretchGraph_ok (F : Nat) (ab : GEventGraph) (ac : Option Addr) (ap ad : Nat) (ax : ap = ab.Places.length) (aQ : Int) (r : GEventGraph × Int) (W : World) (hm : impl_StretchGraph F ab aQ = some r) (aq : Rd W ac ((recs GPlace.cells) ab.Places)) :
  Calls Try.prog 62 [.agg #[.int .i64 ab.Events, .slice ac ap ad], .int .i64 aQ].toArray W fun e w' => ∃ v, e = .returned v ∧ ∃ A65, ∃ n66, ∃ c67, v = .tuple #[.agg #[.int .i64 r.1.Events, .slice A65 n66 c67], .int .i64 r.2] ∧ n66 = r.1.Places.length ∧ St [] W w' [.row A65 n66 c67 127 4 ((recs GPlace.cells) r.1.Places)] := by
 subst ax
 unfold impl_StretchGraph at hm
 refine Calls.enter (N := 39) Try.func62 rfl rfl rfl (fun a hf => ?_)
 have hs := St.start W
 obtain ⟨w, hw_⟩ : ∃ w, w = W := ⟨W, rfl⟩
 clear hw_ w
 refine wpL_seq <| wpL_region ?_
 refine sBox hf hs rfl rfl rfl rfl rfl (cs := [.int .i64 ab.Events, .slice ac ab.Places.length ad]) rfl ?_; clear hf hs; intro a w b1 hs hf
 have hs : St [] W w [.blk b1 59 [.int .i64 ab.Events, .slice ac ab.Places.length ad]] := hs
 refine sAlloc hf hs rfl rfl rfl rfl ti59 ?_; clear hf hs; intro a w b2 hs hf
 have hs : St [] W w [.blk b1 59 [.int .i64 ab.Events, .slice ac ab.Places.length ad], .blk b2 59 [.int .i64 0, .slice none 0 0]] := hs
 refine sY hf hs rfl rfl rfl (Y_assign rfl rfl) ?_; clear hf; intro a hf
 refine wpO_nil <| wpL_seq <| wpL_seq <| wpL_region ?_
 refine sY hf hs rfl rfl rfl (Y_load_blkS rfl rfl (i := 0) rfl ag59 ti59 rfl) ?_; clear hf; intro a hf
 obtain ⟨r3, hc4, hm⟩ := bind_some hm
 refine sCall hf rfl rfl rfl rfl (cap := []) rfl rfl en51 (impl_IsEventGraph_ok F ab ac ab.Places.length ad rfl _ _ hc4 (aq.at hs)) ?_; clear hf
 rintro _ w ⟨rfl, hs1⟩ a hf
 have hs : St [] W w [.blk b1 59 [.int .i64 ab.Events, .slice ac ab.Places.length ad], .blk b2 59 [.int .i64 0, .slice none 0 0]] := hs.ext hs1.below
 clear hs1
 refine sY hf hs rfl rfl rfl (Y_not rfl rfl) ?_; clear hf; intro a hf
 refine wpO_nil ?_
 refine wpL_cond hf rfl (fun hb5 => ?_) (fun hb5 => ?_)
 ·have hm := bif_t hm hb5
  refine wpL_seq <| wpL_region ?_
  refine sY hf hs rfl rfl rfl (Y_build (parts := []) (vs := []) rfl rfl (run_build (parts := []) (cells := [.int .i64 0, .slice none 0 0]) (places := #[(0, 1), (1, 1)]) ti59 Try.underlying59 (fun w => by simp [go_sem]) rfl)) ?_; clear hf; intro a hf
  refine sStore (i := 1) (us := [.int .i64 0, .slice none 0 0]) hf hs rfl rfl rfl rfl rfl rfl ti59 rfl rfl rfl (Nat.le_of_ble_eq_true rfl) rfl ?_; clear hs; intro w hs
  have hs : St [] W w [.blk b1 59 [.int .i64 ab.Events, .slice ac ab.Places.length ad], .blk b2 59 [.int .i64 0, .slice none 0 0]] := hs
  refine sY hf hs rfl rfl rfl (Y_assign rfl rfl) ?_; clear hf; intro a hf
  refine wpO_nil ?_
  have hs : St [] W _ [.blk b1 59 [.int .i64 ab.Events, .slice ac ab.Places.length ad], .blk b2 59 [.int .i64 0, .slice none 0 0], .row none 0 0 127 4 ((recs GPlace.cells) ([] : List GPlace))] := hs.addNil 127 4
  obtain rfl := Option.some.inj hm
  refine wpL_ret (ret_cell_tmp rfl hf rfl rfl hs (i := 1) rfl ag59 ti59 rfl ?_)
  exact ⟨_, rfl, none, 0, 0, rfl, rfl, hs.sel [2] (by decide)⟩
 ·have hm := bif_f hm hb5
  refine wpL_skip <| wpL_seq <| wpL_seq <| wpL_region ?_
  refine sY hf hs rfl rfl rfl (Y_move rfl rfl) ?_; clear hf; intro a hf
  obtain ⟨r7, hc8, hm⟩ := bind_some hm
  refine sCall hf rfl rfl rfl rfl (cap := []) rfl rfl en105 (impl_within_ok F aQ 1 1000 _ _ hc8) ?_; clear hf
  rintro _ w ⟨rfl, hs1⟩ a hf
  have hs : St [] W w [.blk b1 59 [.int .i64 ab.Events, .slice ac ab.Places.length ad], .blk b2 59 [.int .i64 0, .slice none 0 0]] := hs.ext hs1.below
  clear hs1
  refine sY hf hs rfl rfl rfl (Y_not rfl rfl) ?_; clear hf; intro a hf
  refine wpO_nil ?_
  refine wpL_cond hf rfl (fun hb9 => ?_) (fun hb9 => ?_)
  ·have hm := bif_t hm hb9
   refine wpL_seq <| wpL_region ?_
   refine sY hf hs rfl rfl rfl (Y_build (parts := []) (vs := []) rfl rfl (run_build (parts := []) (cells := [.int .i64 0, .slice none 0 0]) (places := #[(0, 1), (1, 1)]) ti59 Try.underlying59 (fun w => by simp [go_sem]) rfl)) ?_; clear hf; intro a hf
   refine sStore (i := 1) (us := [.int .i64 0, .slice none 0 0]) hf hs rfl rfl rfl rfl rfl rfl ti59 rfl rfl rfl (Nat.le_of_ble_eq_true rfl) rfl ?_; clear hs; intro w hs
   have hs : St [] W w [.blk b1 59 [.int .i64 ab.Events, .slice ac ab.Places.length ad], .blk b2 59 [.int .i64 0, .slice none 0 0]] := hs
   refine sY hf hs rfl rfl rfl (Y_assign rfl rfl) ?_; clear hf; intro a hf
   refine wpO_nil ?_
   have hs : St [] W _ [.blk b1 59 [.int .i64 ab.Events, .slice ac ab.Places.length ad], .blk b2 59 [.int .i64 0, .slice none 0 0], .row none 0 0 127 4 ((recs GPlace.cells) ([] : List GPlace))] := hs.addNil 127 4
   obtain rfl := Option.some.inj hm
   refine wpL_ret (ret_cell_tmp rfl hf rfl rfl hs (i := 1) rfl ag59 ti59 rfl ?_)
   exact ⟨_, rfl, none, 0, 0, rfl, rfl, hs.sel [2] (by decide)⟩
  ·have hm := bif_f hm hb9
   refine wpL_skip <| wpL_seq <| wpL_region ?_
   refine sY hf hs rfl rfl rfl (Y_load_blkS rfl rfl (i := 0) rfl ag59 ti59 rfl) ?_; clear hf; intro a hf
   obtain ⟨r11, hc12, hm⟩ := bind_some hm
   refine sCall hf rfl rfl rfl rfl (cap := []) rfl rfl en126 (impl_cloneGraph_ok F ab ac ab.Places.length ad rfl _ _ hc12 (aq.at hs)) ?_; clear hf
   rintro _ w ⟨A13, n14, c15, rfl, hn16, hs1⟩ a hf
   have hs : St [] W w [.blk b1 59 [.int .i64 ab.Events, .slice ac ab.Places.length ad], .blk b2 59 [.int .i64 0, .slice none 0 0], .row A13 n14 c15 127 4 ((recs GPlace.cells) r11.Places)] := hs.join hs1
   clear hs1
   refine sAlloc hf hs rfl rfl rfl rfl ti59 ?_; clear hf hs; intro a w b17 hs hf
   have hs : St [] W w [.blk b1 59 [.int .i64 ab.Events, .slice ac ab.Places.length ad], .blk b2 59 [.int .i64 0, .slice none 0 0], .row A13 n14 c15 127 4 ((recs GPlace.cells) r11.Places), .blk b17 59 [.int .i64 0, .slice none 0 0]] := hs
   refine sStore (i := 3) (us := [.int .i64 r11.Events, .slice A13 n14 c15]) hf hs rfl rfl rfl rfl rfl rfl ti59 rfl rfl rfl (Nat.le_of_ble_eq_true rfl) rfl ?_; clear hs; intro w hs
   have hs : St [] W w [.blk b1 59 [.int .i64 ab.Events, .slice ac ab.Places.length ad], .blk b2 59 [.int .i64 0, .slice none 0 0], .row A13 n14 c15 127 4 ((recs GPlace.cells) r11.Places), .blk b17 59 [.int .i64 r11.Events, .slice A13 n14 c15]] := hs
   refine wpO_nil <| wpL_seq <| wpL_seq <| wpL_region ?_
   refine sY hf hs rfl rfl rfl (Y_fieldAddr rfl rfl fo59_1) ?_; clear hf; intro a hf
   refine sY hf hs rfl rfl rfl (Y_load_blk rfl rfl (i := 3) rfl rfl ag57) ?_; clear hf; intro a hf
   refine sY hf hs rfl rfl rfl (Y_lenH rfl rfl el57 hn16) ?_; clear hf; intro a hf
   refine sY hf hs rfl rfl rfl (Y_move rfl rfl) ?_; clear hf; intro a hf
   refine wpO_nil ?_
   obtain ⟨r47, hl48, hm⟩ := bind_some hm
   refine wpL_block (fun a w => ∃ xs45 : List GPlace, xs45 = r47 ∧ n14 = xs45.length ∧ Fr a 39 [(4, .pointer (some ⟨b2, 0, none⟩)), (6, .pointer (some ⟨b17, 0, none⟩))] ∧ St [] W w [.blk b2 59 [.int .i64 0, .slice none 0 0], .blk b17 59 [.int .i64 r11.Events, .slice A13 n14 c15], .row A13 n14 c15 127 4 ((recs GPlace.cells) xs45)]) ?_ ?_
   ·refine wpL_loop (fun n a w => ∃ xs35 : List GPlace, ∃ x37 : Int, impl_StretchGraph_L1 F aQ r11 n xs35 x37 = some r47 ∧ n14 = xs35.length ∧ Fr a 39 [(1, .int .i64 aQ), (4, .pointer (some ⟨b2, 0, none⟩)), (6, .pointer (some ⟨b17, 0, none⟩)), (20, .int .i64 (r11.Places.length : Int)), (21, .int .i64 x37)] ∧ St [] W w [.blk b2 59 [.int .i64 0, .slice none 0 0], .blk b17 59 [.int .i64 r11.Events, .slice A13 n14 c15], .row A13 n14 c15 127 4 ((recs GPlace.cells) xs35)]) F ?_ ?_ ?_
    ·exact ⟨r11.Places, 0, hl48, hn16, (FrD.pick (FrD.pick (FrD.pick (FrD.pick (FrD.pick hf.none hf rfl) hf rfl) hf rfl) hf rfl) hf rfl), hs.sel [1, 3, 2] (by decide)⟩
    ·rintro a w ⟨xs35, x37, h0_, -, -, -⟩; simp [impl_StretchGraph_L1] at h0_
    ·rintro n50 a w ⟨xs35, x37, hm49, hn36, hf, hs⟩
     rw [impl_StretchGraph_L1] at hm49
     refine wpL_seq <| wpL_region ?_
     refine sY hf hs rfl rfl rfl (Y_lss rfl rfl rfl) ?_; clear hf; intro a hf
     refine wpO_nil <| wpL_seq ?_
     refine wpL_cond hf rfl (fun hb51 => ?_) (fun hb51 => ?_)
     ·have hm49 := bif_t hm49 hb51
      refine wpL_skip <| wpL_seq <| wpL_block0 <| wpL_seq <| wpL_region ?_
      refine sY hf hs rfl rfl rfl (Y_move rfl rfl) ?_; clear hf; intro a hf
      refine sY hf hs rfl rfl rfl (Y_assign rfl rfl) ?_; clear hf; intro a hf
      refine wpO_nil <| wpL_region ?_
      refine sY hf hs rfl rfl rfl (Y_fieldAddr rfl rfl fo59_1) ?_; clear hf; intro a hf
      refine sY hf hs rfl rfl rfl (Y_load_blk rfl rfl (i := 1) rfl rfl ag57) ?_; clear hf; intro a hf
      refine sY hf hs rfl rfl rfl (Y_move rfl rfl) ?_; clear hf; intro a hf
      obtain ⟨q52, hi53, hm49⟩ := bind_some hm49
      obtain ⟨hi53a, hi53b, hi53q⟩ := idx_some hi53
      refine sY hf hs rfl rfl rfl (Y_index rfl rfl rfl el57 ti127 (Rd.isAt (hs.rd (i := 2) rfl) (recs_at (s := 4) GPlace.len hi53q (j := 0) rfl)) hi53a (ltn hn36 hi53b)) ?_; clear hf; intro a hf
      refine sY hf hs rfl rfl rfl (Y_fieldAddrE rfl rfl fo127_2) ?_; clear hf; intro a hf
      refine sY hf hs rfl rfl rfl (Y_load_rd rfl rfl (fun w hs => hs.rd (i := 2) rfl) (recs_at (s := 4) GPlace.len hi53q (j := 2) rfl) ag2) ?_; clear hf; intro a hf
      refine sY hf hs rfl rfl rfl (Y_move rfl rfl) ?_; clear hf; intro a hf
      refine sY hf hs rfl rfl rfl (Y_mul rfl rfl rfl) ?_; clear hf; intro a hf
      obtain ⟨q54, hi55, hm49⟩ := bind_some hm49
      obtain ⟨hi55a, hi55b, hi55q⟩ := idx_some hi55
      refine sY hf hs rfl rfl rfl (Y_index rfl rfl rfl el57 ti127 (Rd.isAt (hs.rd (i := 2) rfl) (recs_at (s := 4) GPlace.len hi55q (j := 0) rfl)) hi55a (ltn hn36 hi55b)) ?_; clear hf; intro a hf
      refine sY hf hs rfl rfl rfl (Y_fieldAddrE rfl rfl fo127_2) ?_; clear hf; intro a hf
      obtain ⟨xs56, hu57, hm49⟩ := bind_some hm49
      refine sStoreF (i := 2) (s := 4) (fo := 2) (f := GPlace.cells) (x' := (GPlace.mk q54.From q54.To (IntKind.i64.wrap (q52.Delay * aQ)) q54.Tokens)) hf hs rfl rfl rfl rfl rfl rfl hi55q hu57 ti2 rfl rfl rfl GPlace.len rfl rfl ?_; clear hs; intro w hs
      have hs : St [] W w [.blk b2 59 [.int .i64 0, .slice none 0 0], .blk b17 59 [.int .i64 r11.Events, .slice A13 n14 c15], .row A13 n14 c15 127 4 ((recs GPlace.cells) xs56)] := hs
      refine wpO_nil ?_
      refine wpL_nil (Qb_normal ?_)
      refine wpL_region ?_
      refine sY hf hs rfl rfl rfl (Y_add rfl rfl rfl) ?_; clear hf; intro a hf
      refine sY hf hs rfl rfl rfl (Y_move rfl rfl) ?_; clear hf; intro a hf
      refine wpO_nil ?_
      refine wpL_nil (Ql_normal ?_)
      exact ⟨xs56, (IntKind.i64.wrap (x37 + 1)), hm49, ((hn36).trans (upd_len hu57).symm), (FrD.pick (FrD.pick (FrD.pick (FrD.pick (FrD.pick hf.none hf rfl) hf rfl) hf rfl) hf rfl) hf rfl), hs⟩
     ·have hm49 := bif_f hm49 hb51
      refine wpL_exit (Ql_exit (Qb_exit ?_))
      exact ⟨xs35, Option.some.inj hm49, hn36, (FrD.pick (FrD.pick hf.none hf rfl) hf rfl), hs⟩
   ·rintro a w ⟨xs45, hr_, hn46, hf, hs⟩
    subst hr_
    try dsimp only at hm
    refine wpL_seq <| wpL_region ?_
    refine sY hf hs rfl rfl rfl (Y_load_blkS rfl rfl (i := 1) rfl ag59 ti59 rfl) ?_; clear hf; intro a hf
    obtain ⟨r58, hc59, hm⟩ := bind_some hm
    refine sCall hf rfl rfl rfl rfl (cap := []) rfl rfl en127 (impl_checkedGraph_ok F (GEventGraph.mk r11.Events xs45) A13 n14 c15 hn46 _ _ hc59 (hs.rd (i := 2) rfl)) ?_; clear hf
    rintro _ w ⟨A60, n61, c62, rfl, hn63, hal64, hs1⟩ a hf
    have hs : St [] W w [.blk b2 59 [.int .i64 0, .slice none 0 0], .blk b17 59 [.int .i64 r11.Events, .slice A13 n14 c15], .row A13 n14 c15 127 4 ((recs GPlace.cells) xs45)] := hs.ext hs1.below
    clear hs1
    have hs : St [] W w [.blk b2 59 [.int .i64 0, .slice none 0 0], .blk b17 59 [.int .i64 r11.Events, .slice A13 n14 c15], .row A60 n61 c62 127 4 ((recs GPlace.cells) r58.1.Places)] := hs.alias (i := 2) (enc := (recs GPlace.cells)) rfl rfl hal64
    refine sY hf hs rfl rfl rfl (Y_extract rfl rfl rfl) ?_; clear hf; intro a hf
    refine sY hf hs rfl rfl rfl (Y_extract rfl rfl rfl) ?_; clear hf; intro a hf
    refine sStore (i := 0) (us := [.int .i64 r58.1.Events, .slice A60 n61 c62]) hf hs rfl rfl rfl rfl rfl rfl ti59 rfl rfl rfl (Nat.le_of_ble_eq_true rfl) rfl ?_; clear hs; intro w hs
    have hs : St [] W w [.blk b2 59 [.int .i64 r58.1.Events, .slice A60 n61 c62], .blk b17 59 [.int .i64 r11.Events, .slice A13 n14 c15], .row A60 n61 c62 127 4 ((recs GPlace.cells) r58.1.Places)] := hs
    refine sY hf hs rfl rfl rfl (Y_assign rfl rfl) ?_; clear hf; intro a hf
    refine wpO_nil ?_
    obtain rfl := Option.some.inj hm
    refine wpL_ret (ret_cell_tmp rfl hf rfl rfl hs (i := 0) rfl ag59 ti59 rfl ?_)
    exact ⟨_, rfl, A60, n61, c62, rfl, hn63, hs.sel [2] (by decide)⟩

set_option maxRecDepth 100000 in
theorem spec_l19Result_ok (F : Nat) (ab : GEventGraph) (ac : Option Addr) (ap ad : Nat) (ax : ap = ab.Places.length) (r : GEventGraph × Int) (W : World) (hm : spec_l19Result F ab = some r) (aq : Rd W ac ((recs GPlace.cells) ab.Places)) :
  Calls Try.prog 130 [.agg #[.int .i64 ab.Events, .slice ac ap ad]].toArray W fun e w' => ∃ v, e = .returned v ∧ ∃ A6, ∃ n7, ∃ c8, v = .tuple #[.agg #[.int .i64 r.1.Events, .slice A6 n7 c8], .int .i64 r.2] ∧ n7 = r.1.Places.length ∧ Al ac ap ad ab.Places A6 n7 c8 r.1.Places ∧ St [] W w' [] := by
 subst ax
 unfold spec_l19Result at hm
 refine Calls.enter (N := 9) Try.func130 rfl rfl rfl (fun a hf => ?_)
 have hs := St.start W
 obtain ⟨w, hw_⟩ : ∃ w, w = W := ⟨W, rfl⟩
 clear hw_ w
 refine wpL_seq <| wpL_region ?_
 refine sBox hf hs rfl rfl rfl rfl rfl (cs := [.int .i64 ab.Events, .slice ac ab.Places.length ad]) rfl ?_; clear hf hs; intro a w b1 hs hf
 have hs : St [] W w [.blk b1 59 [.int .i64 ab.Events, .slice ac ab.Places.length ad]] := hs
 refine sAlloc hf hs rfl rfl rfl rfl ti59 ?_; clear hf hs; intro a w b2 hs hf
 have hs : St [] W w [.blk b1 59 [.int .i64 ab.Events, .slice ac ab.Places.length ad], .blk b2 59 [.int .i64 0, .slice none 0 0]] := hs
 refine sY hf hs rfl rfl rfl (Y_assign rfl rfl) ?_; clear hf; intro a hf
 refine wpO_nil <| wpL_seq <| wpL_seq <| wpL_region ?_
 refine sY hf hs rfl rfl rfl (Y_load_blkS rfl rfl (i := 0) rfl ag59 ti59 rfl) ?_; clear hf; intro a hf
 obtain ⟨r3, hc4, hm⟩ := bind_some hm
 refine sCall hf rfl rfl rfl rfl (cap := []) rfl rfl en128 (spec_IsEventGraph_ok F ab ac ab.Places.length ad rfl _ _ hc4 (aq.at hs)) ?_; clear hf
 rintro _ w ⟨rfl, hs1⟩ a hf
 have hs : St [] W w [.blk b1 59 [.int .i64 ab.Events, .slice ac ab.Places.length ad], .blk b2 59 [.int .i64 0, .slice none 0 0]] := hs.ext hs1.below
 clear hs1
 refine sY hf hs rfl rfl rfl (Y_not rfl rfl) ?_; clear hf; intro a hf
 refine wpO_nil ?_
 refine wpL_cond hf rfl (fun hb5 => ?_) (fun hb5 => ?_)
 ·have hm := bif_t hm hb5
  refine wpL_seq <| wpL_region ?_
  refine sY hf hs rfl rfl rfl (Y_build (parts := []) (vs := []) rfl rfl (run_build (parts := []) (cells := [.int .i64 0, .slice none 0 0]) (places := #[(0, 1), (1, 1)]) ti59 Try.underlying59 (fun w => by simp [go_sem]) rfl)) ?_; clear hf; intro a hf
  refine sStore (i := 1) (us := [.int .i64 0, .slice none 0 0]) hf hs rfl rfl rfl rfl rfl rfl ti59 rfl rfl rfl (Nat.le_of_ble_eq_true rfl) rfl ?_; clear hs; intro w hs
  have hs : St [] W w [.blk b1 59 [.int .i64 ab.Events, .slice ac ab.Places.length ad], .blk b2 59 [.int .i64 0, .slice none 0 0]] := hs
  refine sY hf hs rfl rfl rfl (Y_assign rfl rfl) ?_; clear hf; intro a hf
  refine wpO_nil ?_
  obtain rfl := Option.some.inj hm
  refine wpL_ret (ret_cell_tmp rfl hf rfl rfl hs (i := 1) rfl ag59 ti59 rfl ?_)
  exact ⟨_, rfl, none, 0, 0, rfl, rfl, .inr ⟨rfl, rfl, rfl, rfl⟩, hs.sel [] (by decide)⟩
 ·have hm := bif_f hm hb5
  refine wpL_skip <| wpL_seq <| wpL_region ?_
  refine sY hf hs rfl rfl rfl (Y_load_blkS rfl rfl (i := 0) rfl ag59 ti59 rfl) ?_; clear hf; intro a hf
  refine sStore (i := 1) (us := [.int .i64 ab.Events, .slice ac ab.Places.length ad]) hf hs rfl rfl rfl rfl rfl rfl ti59 rfl rfl rfl (Nat.le_of_ble_eq_true rfl) rfl ?_; clear hs; intro w hs
  have hs : St [] W w [.blk b1 59 [.int .i64 ab.Events, .slice ac ab.Places.length ad], .blk b2 59 [.int .i64 ab.Events, .slice ac ab.Places.length ad]] := hs
  refine sY hf hs rfl rfl rfl (Y_assign rfl rfl) ?_; clear hf; intro a hf
  refine wpO_nil ?_
  obtain rfl := Option.some.inj hm
  refine wpL_ret (ret_cell_tmp rfl hf rfl rfl hs (i := 1) rfl ag59 ti59 rfl ?_)
  exact ⟨_, rfl, ac, ab.Places.length, ad, rfl, rfl, .inl ⟨rfl, rfl, rfl, rfl⟩, hs.sel [] (by decide)⟩

set_option maxRecDepth 100000 in
theorem spec_StretchGraph_ok (F : Nat) (ab : GEventGraph) (ac : Option Addr) (ap ad : Nat) (ax : ap = ab.Places.length) (aQ : Int) (r : GEventGraph × Int) (W : World) (hm : spec_StretchGraph F ab aQ = some r) (aq : Rd W ac ((recs GPlace.cells) ab.Places)) :
  Calls Try.prog 63 [.agg #[.int .i64 ab.Events, .slice ac ap ad], .int .i64 aQ].toArray W fun e w' => ∃ v, e = .returned v ∧ ∃ A65, ∃ n66, ∃ c67, v = .tuple #[.agg #[.int .i64 r.1.Events, .slice A65 n66 c67], .int .i64 r.2] ∧ n66 = r.1.Places.length ∧ St [] W w' [.row A65 n66 c67 127 4 ((recs GPlace.cells) r.1.Places)] := by
 subst ax
 unfold spec_StretchGraph at hm
 refine Calls.enter (N := 44) Try.func63 rfl rfl rfl (fun a hf => ?_)
 have hs := St.start W
 obtain ⟨w, hw_⟩ : ∃ w, w = W := ⟨W, rfl⟩
 clear hw_ w
 refine wpL_seq <| wpL_region ?_
 refine sBox hf hs rfl rfl rfl rfl rfl (cs := [.int .i64 ab.Events, .slice ac ab.Places.length ad]) rfl ?_; clear hf hs; intro a w b1 hs hf
 have hs : St [] W w [.blk b1 59 [.int .i64 ab.Events, .slice ac ab.Places.length ad]] := hs
 refine sAlloc hf hs rfl rfl rfl rfl ti59 ?_; clear hf hs; intro a w b2 hs hf
 have hs : St [] W w [.blk b1 59 [.int .i64 ab.Events, .slice ac ab.Places.length ad], .blk b2 59 [.int .i64 0, .slice none 0 0]] := hs
 refine sY hf hs rfl rfl rfl (Y_assign rfl rfl) ?_; clear hf; intro a hf
 refine wpO_nil <| wpL_seq <| wpL_block0 <| wpL_seq <| wpL_region ?_
 refine sY hf hs rfl rfl rfl (Y_load_blkS rfl rfl (i := 0) rfl ag59 ti59 rfl) ?_; clear hf; intro a hf
 obtain ⟨r3, hc4, hm⟩ := bind_some hm
 refine sCall hf rfl rfl rfl rfl (cap := []) rfl rfl en128 (spec_IsEventGraph_ok F ab ac ab.Places.length ad rfl _ _ hc4 (aq.at hs)) ?_; clear hf
 rintro _ w ⟨rfl, hs1⟩ a hf
 have hs : St [] W w [.blk b1 59 [.int .i64 ab.Events, .slice ac ab.Places.length ad], .blk b2 59 [.int .i64 0, .slice none 0 0]] := hs.ext hs1.below
 clear hs1
 refine sY hf hs rfl rfl rfl (Y_not rfl rfl) ?_; clear hf; intro a hf
 refine sY hf hs rfl rfl rfl (Y_assign rfl rfl) ?_; clear hf; intro a hf
 refine wpO_nil ?_
 refine wpL_cond hf rfl (fun hb5 => ?_) (fun hb5 => ?_)
 ·have hm := bif_t hm hb5
  refine wpL_seq <| wpL_region ?_
  refine sY hf hs rfl rfl rfl (Y_build (parts := []) (vs := []) rfl rfl (run_build (parts := []) (cells := [.int .i64 0, .slice none 0 0]) (places := #[(0, 1), (1, 1)]) ti59 Try.underlying59 (fun w => by simp [go_sem]) rfl)) ?_; clear hf; intro a hf
  refine sStore (i := 1) (us := [.int .i64 0, .slice none 0 0]) hf hs rfl rfl rfl rfl rfl rfl ti59 rfl rfl rfl (Nat.le_of_ble_eq_true rfl) rfl ?_; clear hs; intro w hs
  have hs : St [] W w [.blk b1 59 [.int .i64 ab.Events, .slice ac ab.Places.length ad], .blk b2 59 [.int .i64 0, .slice none 0 0]] := hs
  refine sY hf hs rfl rfl rfl (Y_assign rfl rfl) ?_; clear hf; intro a hf
  refine wpO_nil ?_
  have hs : St [] W _ [.blk b1 59 [.int .i64 ab.Events, .slice ac ab.Places.length ad], .blk b2 59 [.int .i64 0, .slice none 0 0], .row none 0 0 127 4 ((recs GPlace.cells) ([] : List GPlace))] := hs.addNil 127 4
  obtain rfl := Option.some.inj hm
  refine wpL_ret (Qb_ret (ret_cell_tmp rfl hf rfl rfl hs (i := 1) rfl ag59 ti59 rfl ?_))
  exact ⟨_, rfl, none, 0, 0, rfl, rfl, hs.sel [2] (by decide)⟩
 ·have hm := bif_f hm hb5
  refine wpL_seq <| wpL_region ?_
  refine sY hf hs rfl rfl rfl (Y_move rfl rfl) ?_; clear hf; intro a hf
  obtain ⟨r7, hc8, hm⟩ := bind_some hm
  refine sCall hf rfl rfl rfl rfl (cap := []) rfl rfl en115 (spec_l01In_ok F aQ 1 1000 _ _ hc8) ?_; clear hf
  rintro _ w ⟨rfl, hs1⟩ a hf
  have hs : St [] W w [.blk b1 59 [.int .i64 ab.Events, .slice ac ab.Places.length ad], .blk b2 59 [.int .i64 0, .slice none 0 0]] := hs.ext hs1.below
  clear hs1
  refine sY hf hs rfl rfl rfl (Y_not rfl rfl) ?_; clear hf; intro a hf
  refine sY hf hs rfl rfl rfl (Y_assign rfl rfl) ?_; clear hf; intro a hf
  refine wpO_nil ?_
  refine wpL_cond hf rfl (fun hb9 => ?_) (fun hb9 => ?_)
  ·have hm := bif_t hm hb9
   refine wpL_seq <| wpL_region ?_
   refine sY hf hs rfl rfl rfl (Y_build (parts := []) (vs := []) rfl rfl (run_build (parts := []) (cells := [.int .i64 0, .slice none 0 0]) (places := #[(0, 1), (1, 1)]) ti59 Try.underlying59 (fun w => by simp [go_sem]) rfl)) ?_; clear hf; intro a hf
   refine sStore (i := 1) (us := [.int .i64 0, .slice none 0 0]) hf hs rfl rfl rfl rfl rfl rfl ti59 rfl rfl rfl (Nat.le_of_ble_eq_true rfl) rfl ?_; clear hs; intro w hs
   have hs : St [] W w [.blk b1 59 [.int .i64 ab.Events, .slice ac ab.Places.length ad], .blk b2 59 [.int .i64 0, .slice none 0 0]] := hs
   refine sY hf hs rfl rfl rfl (Y_assign rfl rfl) ?_; clear hf; intro a hf
   refine wpO_nil ?_
   have hs : St [] W _ [.blk b1 59 [.int .i64 ab.Events, .slice ac ab.Places.length ad], .blk b2 59 [.int .i64 0, .slice none 0 0], .row none 0 0 127 4 ((recs GPlace.cells) ([] : List GPlace))] := hs.addNil 127 4
   obtain rfl := Option.some.inj hm
   refine wpL_ret (Qb_ret (ret_cell_tmp rfl hf rfl rfl hs (i := 1) rfl ag59 ti59 rfl ?_))
   exact ⟨_, rfl, none, 0, 0, rfl, rfl, hs.sel [2] (by decide)⟩
  ·have hm := bif_f hm hb9
   refine wpL_skip ?_
   refine wpL_nil (Qb_normal ?_)
   refine wpL_seq <| wpL_region ?_
   refine sY hf hs rfl rfl rfl (Y_load_blkS rfl rfl (i := 0) rfl ag59 ti59 rfl) ?_; clear hf; intro a hf
   obtain ⟨r11, hc12, hm⟩ := bind_some hm
   refine sCall hf rfl rfl rfl rfl (cap := []) rfl rfl en129 (spec_l11Own_ok F ab ac ab.Places.length ad rfl _ _ hc12 (aq.at hs)) ?_; clear hf
   rintro _ w ⟨A13, n14, c15, rfl, hn16, hs1⟩ a hf
   have hs : St [] W w [.blk b1 59 [.int .i64 ab.Events, .slice ac ab.Places.length ad], .blk b2 59 [.int .i64 0, .slice none 0 0], .row A13 n14 c15 127 4 ((recs GPlace.cells) r11.Places)] := hs.join hs1
   clear hs1
   refine sAlloc hf hs rfl rfl rfl rfl ti59 ?_; clear hf hs; intro a w b17 hs hf
   have hs : St [] W w [.blk b1 59 [.int .i64 ab.Events, .slice ac ab.Places.length ad], .blk b2 59 [.int .i64 0, .slice none 0 0], .row A13 n14 c15 127 4 ((recs GPlace.cells) r11.Places), .blk b17 59 [.int .i64 0, .slice none 0 0]] := hs
   refine sStore (i := 3) (us := [.int .i64 r11.Events, .slice A13 n14 c15]) hf hs rfl rfl rfl rfl rfl rfl ti59 rfl rfl rfl (Nat.le_of_ble_eq_true rfl) rfl ?_; clear hs; intro w hs
   have hs : St [] W w [.blk b1 59 [.int .i64 ab.Events, .slice ac ab.Places.length ad], .blk b2 59 [.int .i64 0, .slice none 0 0], .row A13 n14 c15 127 4 ((recs GPlace.cells) r11.Places), .blk b17 59 [.int .i64 r11.Events, .slice A13 n14 c15]] := hs
   refine wpO_nil <| wpL_seq <| wpL_seq <| wpL_region ?_
   refine sY hf hs rfl rfl rfl (Y_assign rfl rfl) ?_; clear hf; intro a hf
   refine wpO_nil ?_
   obtain ⟨r47, hl48, hm⟩ := bind_some hm
   refine wpL_block (fun a w => ∃ xs45 : List GPlace, xs45 = r47 ∧ n14 = xs45.length ∧ Fr a 44 [(4, .pointer (some ⟨b2, 0, none⟩)), (6, .pointer (some ⟨b17, 0, none⟩))] ∧ St [] W w [.blk b2 59 [.int .i64 0, .slice none 0 0], .blk b17 59 [.int .i64 r11.Events, .slice A13 n14 c15], .row A13 n14 c15 127 4 ((recs GPlace.cells) xs45)]) ?_ ?_
   ·refine wpL_loop (fun n a w => ∃ xs35 : List GPlace, ∃ x37 : Int, spec_StretchGraph_L1 F aQ n xs35 x37 = some r47 ∧ n14 = xs35.length ∧ Fr a 44 [(1, .int .i64 aQ), (4, .pointer (some ⟨b2, 0, none⟩)), (6, .pointer (some ⟨b17, 0, none⟩)), (7, .int .i64 x37)] ∧ St [] W w [.blk b2 59 [.int .i64 0, .slice none 0 0], .blk b17 59 [.int .i64 r11.Events, .slice A13 n14 c15], .row A13 n14 c15 127 4 ((recs GPlace.cells) xs35)]) F ?_ ?_ ?_
    ·exact ⟨r11.Places, 0, hl48, hn16, (FrD.pick (FrD.pick (FrD.pick (FrD.pick hf.none hf rfl) hf rfl) hf rfl) hf rfl), hs.sel [1, 3, 2] (by decide)⟩
    ·rintro a w ⟨xs35, x37, h0_, -, -, -⟩; simp [spec_StretchGraph_L1] at h0_
    ·rintro n50 a w ⟨xs35, x37, hm49, hn36, hf, hs⟩
     rw [spec_StretchGraph_L1] at hm49
     refine wpL_seq <| wpL_seq <| wpL_region ?_
     refine sY hf hs rfl rfl rfl (Y_move rfl rfl) ?_; clear hf; intro a hf
     refine sY hf hs rfl rfl rfl (Y_fieldAddr rfl rfl fo59_1) ?_; clear hf; intro a hf
     refine sY hf hs rfl rfl rfl (Y_load_blk rfl rfl (i := 1) rfl rfl ag57) ?_; clear hf; intro a hf
     refine sY hf hs rfl rfl rfl (Y_lenH rfl rfl el57 hn36) ?_; clear hf; intro a hf
     refine sY hf hs rfl rfl rfl (Y_lss rfl rfl rfl) ?_; clear hf; intro a hf
     refine wpO_nil ?_
     refine wpL_cond hf rfl (fun hb51 => ?_) (fun hb51 => ?_)
     ·have hm49 := bif_t hm49 hb51
      refine wpL_skip <| wpL_seq <| wpL_block0 ?_
      refine wpL_drawM [.blk b2 59 [.int .i64 0, .slice none 0 0], .blk b17 59 [.int .i64 r11.Events, .slice A13 n14 c15], .row A13 n14 c15 127 4 ((recs GPlace.cells) xs35)] [13] (by kernel_rfl) hs ?_; clear hs; intro w hs
      have hs0 : St [] W w [.blk b2 59 [.int .i64 0, .slice none 0 0], .blk b17 59 [.int .i64 r11.Events, .slice A13 n14 c15], .row A13 n14 c15 127 4 ((recs GPlace.cells) xs35)] := hs
      refine mYp (i := 0) rfl (by kernel_rfl) (by kernel_rfl) hf rfl rfl rfl (fun _ => Y_fieldAddr rfl rfl fo59_1) ?_; clear hf; intro a hf
      refine mY (i := 1) [[]] rfl (by kernel_rfl) (by kernel_rfl) hf hs0 rfl rfl rfl (Y_load_blk rfl rfl (i := 1) rfl rfl ag57) ?_; clear hf; intro a hf
      refine mYp (i := 2) rfl (by kernel_rfl) (by kernel_rfl) hf rfl rfl rfl (fun _ => Y_move rfl rfl) ?_; clear hf; intro a hf
      refine mYp (i := 3) rfl (by kernel_rfl) (by kernel_rfl) hf rfl rfl rfl (fun _ => Y_move rfl rfl) ?_; clear hf; intro a hf
      refine mYp (i := 4) rfl (by kernel_rfl) (by kernel_rfl) hf rfl rfl rfl (fun _ => Y_fieldAddr rfl rfl fo59_1) ?_; clear hf; intro a hf
      refine mY (i := 5) [[]] rfl (by kernel_rfl) (by kernel_rfl) hf hs0 rfl rfl rfl (Y_load_blk rfl rfl (i := 1) rfl rfl ag57) ?_; clear hf; intro a hf
      refine mYp (i := 6) rfl (by kernel_rfl) (by kernel_rfl) hf rfl rfl rfl (fun _ => Y_move rfl rfl) ?_; clear hf; intro a hf
      obtain ⟨q52, hi53, hm49⟩ := bind_some hm49
      obtain ⟨hi53a, hi53b, hi53q⟩ := idx_some hi53
      refine mYp (i := 7) rfl (by kernel_rfl) (by kernel_rfl) hf rfl rfl rfl (fun _ => Y_index rfl rfl rfl el57 ti127 (Rd.isAt (hs.rd (i := 2) rfl) (recs_at (s := 4) GPlace.len hi53q (j := 0) rfl)) hi53a (ltn hn36 hi53b)) ?_; clear hf; intro a hf
      refine mYp (i := 8) rfl (by kernel_rfl) (by kernel_rfl) hf rfl rfl rfl (fun _ => Y_fieldAddrE rfl rfl fo127_2) ?_; clear hf; intro a hf
      refine mY (i := 9) [[]] rfl (by kernel_rfl) (by kernel_rfl) hf hs0 rfl rfl rfl (Y_load_rd rfl rfl (fun w hs => hs.rd (i := 2) rfl) (recs_at (s := 4) GPlace.len hi53q (j := 2) rfl) ag2) ?_; clear hf; intro a hf
      refine mYp (i := 10) rfl (by kernel_rfl) (by kernel_rfl) hf rfl rfl rfl (fun _ => Y_mul rfl rfl rfl) ?_; clear hf; intro a hf
      obtain ⟨q54, hi55, hm49⟩ := bind_some hm49
      obtain ⟨hi55a, hi55b, hi55q⟩ := idx_some hi55
      refine mYp (i := 11) rfl (by kernel_rfl) (by kernel_rfl) hf rfl rfl rfl (fun _ => Y_index rfl rfl rfl el57 ti127 (Rd.isAt (hs.rd (i := 2) rfl) (recs_at (s := 4) GPlace.len hi55q (j := 0) rfl)) hi55a (ltn hn36 hi55b)) ?_; clear hf; intro a hf
      refine mYp (i := 12) rfl (by kernel_rfl) (by kernel_rfl) hf rfl rfl rfl (fun _ => Y_fieldAddrE rfl rfl fo127_2) ?_; clear hf; intro a hf
      refine mRun (i := 13) rfl (by kernel_rfl) ?_
      obtain ⟨xs56, hu57, hm49⟩ := bind_some hm49
      refine sStoreF (i := 2) (s := 4) (fo := 2) (f := GPlace.cells) (x' := (GPlace.mk q54.From q54.To (IntKind.i64.wrap (aQ * q52.Delay)) q54.Tokens)) hf hs rfl rfl rfl rfl rfl rfl hi55q hu57 ti2 rfl rfl rfl GPlace.len rfl rfl ?_; clear hs; intro w hs
      have hs : St [] W w [.blk b2 59 [.int .i64 0, .slice none 0 0], .blk b17 59 [.int .i64 r11.Events, .slice A13 n14 c15], .row A13 n14 c15 127 4 ((recs GPlace.cells) xs56)] := hs
      refine wpO_nil ⟨Or.inl (by decide), ?_⟩
      refine mDone (by kernel_rfl) ?_
      clear hs0
      refine wpL_nil (Qb_normal ?_)
      refine wpL_region ?_
      refine sY hf hs rfl rfl rfl (Y_move rfl rfl) ?_; clear hf; intro a hf
      refine sY hf hs rfl rfl rfl (Y_add rfl rfl rfl) ?_; clear hf; intro a hf
      refine sY hf hs rfl rfl rfl (Y_assign rfl rfl) ?_; clear hf; intro a hf
      refine wpO_nil ?_
      refine wpL_nil (Ql_normal ?_)
      exact ⟨xs56, (IntKind.i64.wrap (x37 + 1)), hm49, ((hn36).trans (upd_len hu57).symm), (FrD.pick (FrD.pick (FrD.pick (FrD.pick hf.none hf rfl) hf rfl) hf rfl) hf rfl), hs⟩
     ·have hm49 := bif_f hm49 hb51
      refine wpL_exit (Ql_exit (Qb_exit ?_))
      exact ⟨xs35, Option.some.inj hm49, hn36, (FrD.pick (FrD.pick hf.none hf rfl) hf rfl), hs⟩
   ·rintro a w ⟨xs45, hr_, hn46, hf, hs⟩
    subst hr_
    try dsimp only at hm
    refine wpL_seq <| wpL_region ?_
    refine sY hf hs rfl rfl rfl (Y_load_blkS rfl rfl (i := 1) rfl ag59 ti59 rfl) ?_; clear hf; intro a hf
    obtain ⟨r58, hc59, hm⟩ := bind_some hm
    refine sCall hf rfl rfl rfl rfl (cap := []) rfl rfl en130 (spec_l19Result_ok F (GEventGraph.mk r11.Events xs45) A13 n14 c15 hn46 _ _ hc59 (hs.rd (i := 2) rfl)) ?_; clear hf
    rintro _ w ⟨A60, n61, c62, rfl, hn63, hal64, hs1⟩ a hf
    have hs : St [] W w [.blk b2 59 [.int .i64 0, .slice none 0 0], .blk b17 59 [.int .i64 r11.Events, .slice A13 n14 c15], .row A13 n14 c15 127 4 ((recs GPlace.cells) xs45)] := hs.ext hs1.below
    clear hs1
    have hs : St [] W w [.blk b2 59 [.int .i64 0, .slice none 0 0], .blk b17 59 [.int .i64 r11.Events, .slice A13 n14 c15], .row A60 n61 c62 127 4 ((recs GPlace.cells) r58.1.Places)] := hs.alias (i := 2) (enc := (recs GPlace.cells)) rfl rfl hal64
    refine sY hf hs rfl rfl rfl (Y_extract rfl rfl rfl) ?_; clear hf; intro a hf
    refine sY hf hs rfl rfl rfl (Y_extract rfl rfl rfl) ?_; clear hf; intro a hf
    refine sStore (i := 0) (us := [.int .i64 r58.1.Events, .slice A60 n61 c62]) hf hs rfl rfl rfl rfl rfl rfl ti59 rfl rfl rfl (Nat.le_of_ble_eq_true rfl) rfl ?_; clear hs; intro w hs
    have hs : St [] W w [.blk b2 59 [.int .i64 r58.1.Events, .slice A60 n61 c62], .blk b17 59 [.int .i64 r11.Events, .slice A13 n14 c15], .row A60 n61 c62 127 4 ((recs GPlace.cells) r58.1.Places)] := hs
    refine sY hf hs rfl rfl rfl (Y_assign rfl rfl) ?_; clear hf; intro a hf
    refine wpO_nil ?_
    obtain rfl := Option.some.inj hm
    refine wpL_ret (ret_cell_tmp rfl hf rfl rfl hs (i := 0) rfl ag59 ti59 rfl ?_)
    exact ⟨_, rfl, A60, n61, c62, rfl, hn63, hs.sel [2] (by decide)⟩

set_option maxRecDepth 100000 in
theorem spec_l01Own_ok (F : Nat) (aM : List Int) (aO : Option Addr) (aT aW : Nat) (aZ : aT = aM.length) (r : List Int) (W : World) (hm : spec_l01Own F aM = some r) (aR : Rd W aO (ints aM)) :
  Calls Try.prog 80 [.slice aO aT aW].toArray W fun e w' => ∃ v, e = .returned v ∧ ∃ A7, ∃ n8, ∃ c9, v = .slice A7 n8 c9 ∧ n8 = r.length ∧ St [] W w' [.row A7 n8 c9 2 1 (ints r)] := by
 subst aZ
 unfold spec_l01Own at hm
 refine Calls.enter (N := 6) Try.func80 rfl rfl rfl (fun a hf => ?_)
 have hs := St.start W
 obtain ⟨w, hw_⟩ : ∃ w, w = W := ⟨W, rfl⟩
 clear hw_ w
 refine wpL_seq <| wpL_region ?_
 refine sY hf hs rfl rfl rfl (Y_assign rfl rfl) ?_; clear hf; intro a hf
 refine wpO_nil <| wpL_seq <| wpL_region ?_
 refine sEmpty hf hs rfl rfl rfl rfl el23 ti2 ?_; clear hf hs; intro a w A1 hs hf
 have hs : St [] W w [.row A1 0 0 2 1 (ints ([] : List Int))] := hs
 refine sY hf hs rfl rfl rfl (Y_move rfl rfl) ?_; clear hf; intro a hf
 obtain ⟨xs5, ha6, hm⟩ := bind_some hm
 refine sAppendG (i := 0) (xs := ([] : List Int)) (ys := aM) (enc := ints) hf hs rfl rfl rfl rfl rfl rfl rfl rfl rfl ha6 el23 ti2 rfl rfl rfl (aR.at hs) ints_len1 ints_append ints_one ?_; clear hf hs; intro a w A3 c4 hs hf
 have hs : St [] W w [.row A3 xs5.length c4 2 1 (ints xs5)] := hs
 refine sY hf hs rfl rfl rfl (Y_assign rfl rfl) ?_; clear hf; intro a hf
 refine wpO_nil ?_
 obtain rfl := Option.some.inj hm
 refine wpL_ret (ret_tmp rfl hf rfl ?_)
 exact ⟨_, rfl, A3, xs5.length, c4, rfl, rfl, hs⟩

set_option maxRecDepth 100000 in
theorem spec_l19DrawOrder_ok (F : Nat) (ay : Nat) (ar : List Int) (ak : Option Addr) (aN am : Nat) (bD : aN = ar.length) (aH : Int) (az : Int) (aQ : Int) (r : (List Int) × Int × Int) (W : World) (hm : spec_l19DrawOrder F ar aH az aQ = some r) (bK : KR (muL [.blk ay 145 [.slice ak aN am, .int .i64 aH, .int .i64 az]]) W ak (bytes ar)) (hst : St (muL [.blk ay 145 [.slice ak aN am, .int .i64 aH, .int .i64 az]]) W W [.blk ay 145 [.slice ak aN am, .int .i64 aH, .int .i64 az]]) :
  Calls Try.prog 150 [.pointer (some ⟨ay, 0, none⟩), .int .i64 aQ].toArray W fun e w' => ∃ v, e = .returned v ∧ ∃ A518, ∃ n519, ∃ c520, v = .slice A518 n519 c520 ∧ n519 = r.1.length ∧ St (muL [.blk ay 145 [.slice ak aN am, .int .i64 aH, .int .i64 az]]) W w' [.row A518 n519 c520 2 1 (ints r.1), .blk ay 145 [.slice ak aN am, .int .i64 r.2.1, .int .i64 r.2.2]] := by
 subst bD
 unfold spec_l19DrawOrder at hm
 refine Calls.enter (N := 30) Try.func150 rfl rfl rfl (fun a hf => ?_)
 have hs := hst
 obtain ⟨w, hw_⟩ : ∃ w, w = W := ⟨W, rfl⟩
 clear hw_ w
 refine wpL_seq <| wpL_region ?_
 refine sY hf hs rfl rfl rfl (Y_assign rfl rfl) ?_; clear hf; intro a hf
 refine wpO_nil <| wpL_seq <| wpL_region ?_
 refine sEmpty hf hs rfl rfl rfl rfl el23 ti2 ?_; clear hf hs; intro a w A1 hs hf
 have hs : St (muL [.blk ay 145 [.slice ak ar.length am, .int .i64 aH, .int .i64 az]]) W w [.blk ay 145 [.slice ak ar.length am, .int .i64 aH, .int .i64 az], .row A1 0 0 2 1 (ints ([] : List Int))] := hs
 refine sY hf hs rfl rfl rfl (Y_assign rfl rfl) ?_; clear hf; intro a hf
 refine wpO_nil <| wpL_seq <| wpL_seq <| wpL_region ?_
 refine sY hf hs rfl rfl rfl (Y_assign rfl rfl) ?_; clear hf; intro a hf
 refine wpO_nil ?_
 obtain ⟨r392, hl393, hm⟩ := bind_some hm
 refine wpL_block (fun a w => ∃ x385 : Int, ∃ x386 : Int, ∃ xs387 : List Int, ∃ A388, ∃ n389, ∃ c390, (x385, x386, xs387) = r392 ∧ n389 = xs387.length ∧ Fr a 30 [(5, .slice A388 n389 c390)] ∧ St (muL [.blk ay 145 [.slice ak ar.length am, .int .i64 aH, .int .i64 az]]) W w [.blk ay 145 [.slice ak ar.length am, .int .i64 x385, .int .i64 x386], .row A388 n389 c390 2 1 (ints xs387)]) ?_ ?_
 ·refine wpL_loop (fun n a w => ∃ x255 : Int, ∃ x256 : Int, ∃ xs257 : List Int, ∃ x262 : Int, ∃ A258, ∃ n259, ∃ c260, spec_l19DrawOrder_L1 F ar aQ n x255 x256 xs257 x262 = some r392 ∧ n259 = xs257.length ∧ Fr a 30 [(0, .pointer (some ⟨ay, 0, none⟩)), (1, .int .i64 aQ), (5, .slice A258 n259 c260), (6, .int .i64 x262)] ∧ St (muL [.blk ay 145 [.slice ak ar.length am, .int .i64 aH, .int .i64 az]]) W w [.blk ay 145 [.slice ak ar.length am, .int .i64 x255, .int .i64 x256], .row A258 n259 c260 2 1 (ints xs257)]) F ?_ ?_ ?_
  ·exact ⟨aH, az, ([] : List Int), 0, A1, 0, 0, hl393, rfl, (FrD.pick (FrD.pick (FrD.pick (FrD.pick hf.none hf rfl) hf rfl) hf rfl) hf rfl), hs⟩
  ·rintro a w ⟨x255, x256, xs257, x262, A258, n259, c260, h0_, -, -, -⟩; simp [spec_l19DrawOrder_L1] at h0_
  ·rintro n395 a w ⟨x255, x256, xs257, x262, A258, n259, c260, hm394, hn261, hf, hs⟩
   rw [spec_l19DrawOrder_L1] at hm394
   refine wpL_seq <| wpL_seq <| wpL_region ?_
   refine sY hf hs rfl rfl rfl (Y_move rfl rfl) ?_; clear hf; intro a hf
   refine sY hf hs rfl rfl rfl (Y_move rfl rfl) ?_; clear hf; intro a hf
   refine sY hf hs rfl rfl rfl (Y_lss rfl rfl rfl) ?_; clear hf; intro a hf
   refine wpO_nil ?_
   refine wpL_cond hf rfl (fun hb396 => ?_) (fun hb396 => ?_)
   ·have hm394 := bif_t hm394 hb396
    refine wpL_skip <| wpL_seq <| wpL_block0 <| wpL_seq <| wpL_region ?_
    refine sY hf hs rfl rfl rfl (Y_move rfl rfl) ?_; clear hf; intro a hf
    refine sY hf hs rfl rfl rfl (Y_move rfl rfl) ?_; clear hf; intro a hf
    refine sY hf hs rfl rfl rfl (Y_add rfl rfl rfl) ?_; clear hf; intro a hf
    obtain ⟨r397, hc398, hm394⟩ := bind_some hm394
    refine sCall hf rfl rfl rfl rfl (cap := []) rfl rfl en107 (spec_l01Next_ok F ay ar ak ar.length am rfl x255 x256 (IntKind.i64.wrap (x262 + 1)) _ _ hc398 (bK.pass hs [0]) (hs.sel [0] (by decide)).rebase) ?_; clear hf
    rintro _ w ⟨rfl, hs1⟩ a hf
    have hs : St (muL [.blk ay 145 [.slice ak ar.length am, .int .i64 aH, .int .i64 az]]) W w [.row A258 n259 c260 2 1 (ints xs257), .blk ay 145 [.slice ak ar.length am, .int .i64 r397.2.1, .int .i64 r397.2.2]] := St.mutTail (La := [.row A258 n259 c260 2 1 (ints xs257)]) (Lb := [.blk ay 145 [.slice ak ar.length am, .int .i64 x255, .int .i64 x256]]) (hs.sel [1, 0] (by decide)) hs1
    clear hs1
    refine sY hf hs rfl rfl rfl (Y_assign rfl rfl) ?_; clear hf; intro a hf
    refine wpO_nil ?_
    obtain ⟨r460, hj461, hm394⟩ := bind_some hm394
    refine wpL_cut (fun a w => ∃ xs455 : List Int, ∃ A456, ∃ n457, ∃ c458, xs455 = r460 ∧ n457 = xs455.length ∧ Fr a 30 [(0, .pointer (some ⟨ay, 0, none⟩)), (1, .int .i64 aQ), (5, .slice A456 n457 c458), (6, .int .i64 x262)] ∧ St (muL [.blk ay 145 [.slice ak ar.length am, .int .i64 aH, .int .i64 az]]) W w [.blk ay 145 [.slice ak ar.length am, .int .i64 r397.2.1, .int .i64 r397.2.2], .row A456 n457 c458 2 1 (ints xs455)]) ?_ ?_
    ·refine wpL_drawM [.row A258 n259 c260 2 1 (ints xs257), .blk ay 145 [.slice ak ar.length am, .int .i64 r397.2.1, .int .i64 r397.2.2]] [10] (by kernel_rfl) hs ?_; clear hs; intro w hs
     have hs0 : St (muL [.blk ay 145 [.slice ak ar.length am, .int .i64 aH, .int .i64 az]]) W w [.row A258 n259 c260 2 1 (ints xs257), .blk ay 145 [.slice ak ar.length am, .int .i64 r397.2.1, .int .i64 r397.2.2]] := hs
     refine mYp (i := 0) rfl (by kernel_rfl) (by kernel_rfl) hf rfl rfl rfl (fun _ => Y_move rfl rfl) ?_; clear hf; intro a hf
     refine mYp (i := 1) rfl (by kernel_rfl) (by kernel_rfl) hf rfl rfl rfl (fun _ => Y_move rfl rfl) ?_; clear hf; intro a hf
     obtain ⟨xs483, hk482, hj461⟩ := bind_some hj461
     refine mY (i := 2) [[3, 6]] rfl (by kernel_rfl) (by kernel_rfl) hf hs0 rfl rfl rfl (Y_sliceH rfl rfl rfl (cutTo_some hk482).1 (leC hn261 (hs0.capR (i := 0) rfl) hk482) el23 ti2) ?_; clear hf; intro a hf
     refine mYp (i := 4) rfl (by kernel_rfl) (by kernel_rfl) hf rfl rfl rfl (fun _ => Y_move rfl rfl) ?_; clear hf; intro a hf
     refine mYp (i := 7) rfl (by kernel_rfl) (by kernel_rfl) hf rfl rfl rfl (fun _ => Y_move rfl rfl) ?_; clear hf; intro a hf
     refine mYp (i := 8) rfl (by kernel_rfl) (by kernel_rfl) hf rfl rfl rfl (fun _ => Y_move rfl rfl) ?_; clear hf; intro a hf
     obtain ⟨xs485, hk484, hj461⟩ := bind_some hj461
     refine mY (i := 9) [[]] rfl (by kernel_rfl) (by kernel_rfl) hf hs0 rfl rfl rfl (Y_sliceL rfl rfl rfl (cutFrom_some hk484).1 (leN hn261 (cutFrom_some hk484).2.1) el23 ti2) ?_; clear hf; intro a hf
     refine mRun2 (i := 3) (j := 5) rfl rfl (by kernel_rfl) ?_ ?_
     ·obtain ⟨r486, hc487, hj461⟩ := bind_some hj461
      refine sCall hf rfl rfl rfl rfl (cap := []) rfl rfl en80 (spec_l01Own_ok F xs483 A258 ((r397.1 : Int).toNat) c260 (pre_len hk482) _ _ hc487 (Rd.preInts (hs.rd (i := 0) rfl) hk482)) ?_; clear hf
      rintro _ w ⟨A488, n489, c490, rfl, hn491, hs1⟩ a hf
      have hs : St (muL [.blk ay 145 [.slice ak ar.length am, .int .i64 aH, .int .i64 az]]) W w [.row A258 n259 c260 2 1 (ints xs257), .blk ay 145 [.slice ak ar.length am, .int .i64 r397.2.1, .int .i64 r397.2.2], .row A488 n489 c490 2 1 (ints r486)] := hs.join hs1
      clear hs1
      have hs0 : St (muL [.blk ay 145 [.slice ak ar.length am, .int .i64 aH, .int .i64 az]]) W w [.row A258 n259 c260 2 1 (ints xs257), .blk ay 145 [.slice ak ar.length am, .int .i64 r397.2.1, .int .i64 r397.2.2]] := hs.sel [0, 1] (by decide)
      refine wpO_nil ⟨Or.inr (fun _ => hs0), ?_⟩
      refine mRun (i := 5) rfl (by kernel_rfl) ?_
      refine sBuildSlice (parts := [(0, .tmp 22)]) (vs := [.int .i64 x262]) (cells := [.int .i64 x262]) hf hs rfl rfl rfl rfl rfl el23 ti2 rfl rfl rfl rfl ?_; clear hf hs; intro a w A492 hs hA493 hf
      have hs : St (muL [.blk ay 145 [.slice ak ar.length am, .int .i64 aH, .int .i64 az]]) W w [.row A258 n259 c260 2 1 (ints xs257), .blk ay 145 [.slice ak ar.length am, .int .i64 r397.2.1, .int .i64 r397.2.2], .row A488 n489 c490 2 1 (ints r486), .row A492 1 1 2 1 (ints ([x262]))] := hs
      have hs0 : St (muL [.blk ay 145 [.slice ak ar.length am, .int .i64 aH, .int .i64 az]]) W w [.row A258 n259 c260 2 1 (ints xs257), .blk ay 145 [.slice ak ar.length am, .int .i64 r397.2.1, .int .i64 r397.2.2]] := hs.sel [0, 1] (by decide)
      refine wpO_nil ⟨Or.inr (fun _ => hs0), ?_⟩
      refine mRun (i := 6) rfl (by kernel_rfl) ?_
      obtain ⟨xs496, ha497, hj461⟩ := bind_some hj461
      refine sAppendL (i := 2) (xs := r486) (ys := [x262]) (enc := ints) hf hs rfl rfl rfl rfl rfl rfl hn491 rfl rfl ha497 el23 ti2 rfl rfl rfl (hs.rd (i := 3) rfl) (Nat.succ_pos _) ints_len1 ints_append ints_one ?_; clear hf hs; intro a w A494 c495 hs hf
      have hs : St (muL [.blk ay 145 [.slice ak ar.length am, .int .i64 aH, .int .i64 az]]) W w [.row A258 n259 c260 2 1 (ints xs257), .blk ay 145 [.slice ak ar.length am, .int .i64 r397.2.1, .int .i64 r397.2.2], .row A494 xs496.length c495 2 1 (ints xs496), .row A492 1 1 2 1 (ints ([x262]))] := hs
      have hs0 : St (muL [.blk ay 145 [.slice ak ar.length am, .int .i64 aH, .int .i64 az]]) W w [.row A258 n259 c260 2 1 (ints xs257), .blk ay 145 [.slice ak ar.length am, .int .i64 r397.2.1, .int .i64 r397.2.2]] := hs.sel [0, 1] (by decide)
      refine wpO_nil ⟨Or.inr (fun _ => hs0), ?_⟩
      refine mRun (i := 10) rfl (by kernel_rfl) ?_
      obtain ⟨xs500, ha501, hj461⟩ := bind_some hj461
      refine sAppendG (i := 2) (xs := xs496) (ys := xs485) (enc := ints) hf hs rfl rfl rfl rfl rfl rfl rfl (cut_len hn261 hk484) rfl ha501 el23 ti2 rfl rfl rfl (Rd.cutInts (hs.rd (i := 0) rfl) hn261 (hs.capR (i := 0) rfl) hk484) ints_len1 ints_append ints_one ?_; clear hf hs; intro a w A498 c499 hs hf
      have hs : St (muL [.blk ay 145 [.slice ak ar.length am, .int .i64 aH, .int .i64 az]]) W w [.row A258 n259 c260 2 1 (ints xs257), .blk ay 145 [.slice ak ar.length am, .int .i64 r397.2.1, .int .i64 r397.2.2], .row A498 xs500.length c499 2 1 (ints xs500), .row A492 1 1 2 1 (ints ([x262]))] := hs
      refine wpO_nil ⟨Or.inl (by decide), ?_⟩
      refine mYp (i := 11) rfl (by kernel_rfl) (by kernel_rfl) hf rfl rfl rfl (fun _ => Y_assign rfl rfl) ?_; clear hf; intro a hf
      refine mDone (by kernel_rfl) ?_
      clear hs0
      refine wpL_nil (then_normal ?_)
      exact ⟨xs500, A498, xs500.length, c499, Option.some.inj hj461, rfl, (FrD.pick (FrD.pick (FrD.pick (FrD.pick hf.none hf rfl) hf rfl) hf rfl) hf rfl), hs.sel [1, 2] (by decide)⟩
     ·refine sBuildSlice (parts := [(0, .tmp 22)]) (vs := [.int .i64 x262]) (cells := [.int .i64 x262]) hf hs rfl rfl rfl rfl rfl el23 ti2 rfl rfl rfl rfl ?_; clear hf hs; intro a w A502 hs hA503 hf
      have hs : St (muL [.blk ay 145 [.slice ak ar.length am, .int .i64 aH, .int .i64 az]]) W w [.row A258 n259 c260 2 1 (ints xs257), .blk ay 145 [.slice ak ar.length am, .int .i64 r397.2.1, .int .i64 r397.2.2], .row A502 1 1 2 1 (ints ([x262]))] := hs
      have hs0 : St (muL [.blk ay 145 [.slice ak ar.length am, .int .i64 aH, .int .i64 az]]) W w [.row A258 n259 c260 2 1 (ints xs257), .blk ay 145 [.slice ak ar.length am, .int .i64 r397.2.1, .int .i64 r397.2.2]] := hs.sel [0, 1] (by decide)
      refine wpO_nil ⟨Or.inr (fun _ => hs0), ?_⟩
      refine mRun (i := 3) rfl (by kernel_rfl) ?_
      obtain ⟨r504, hc505, hj461⟩ := bind_some hj461
      refine sCall hf rfl rfl rfl rfl (cap := []) rfl rfl en80 (spec_l01Own_ok F xs483 A258 ((r397.1 : Int).toNat) c260 (pre_len hk482) _ _ hc505 (Rd.preInts (hs.rd (i := 0) rfl) hk482)) ?_; clear hf
      rintro _ w ⟨A506, n507, c508, rfl, hn509, hs1⟩ a hf
      have hs : St (muL [.blk ay 145 [.slice ak ar.length am, .int .i64 aH, .int .i64 az]]) W w [.row A258 n259 c260 2 1 (ints xs257), .blk ay 145 [.slice ak ar.length am, .int .i64 r397.2.1, .int .i64 r397.2.2], .row A502 1 1 2 1 (ints ([x262])), .row A506 n507 c508 2 1 (ints r504)] := hs.join hs1
      clear hs1
      have hs0 : St (muL [.blk ay 145 [.slice ak ar.length am, .int .i64 aH, .int .i64 az]]) W w [.row A258 n259 c260 2 1 (ints xs257), .blk ay 145 [.slice ak ar.length am, .int .i64 r397.2.1, .int .i64 r397.2.2]] := hs.sel [0, 1] (by decide)
      refine wpO_nil ⟨Or.inr (fun _ => hs0), ?_⟩
      refine mRun (i := 6) rfl (by kernel_rfl) ?_
      obtain ⟨xs512, ha513, hj461⟩ := bind_some hj461
      refine sAppendL (i := 3) (xs := r504) (ys := [x262]) (enc := ints) hf hs rfl rfl rfl rfl rfl rfl hn509 rfl rfl ha513 el23 ti2 rfl rfl rfl (hs.rd (i := 2) rfl) (Nat.succ_pos _) ints_len1 ints_append ints_one ?_; clear hf hs; intro a w A510 c511 hs hf
      have hs : St (muL [.blk ay 145 [.slice ak ar.length am, .int .i64 aH, .int .i64 az]]) W w [.row A258 n259 c260 2 1 (ints xs257), .blk ay 145 [.slice ak ar.length am, .int .i64 r397.2.1, .int .i64 r397.2.2], .row A502 1 1 2 1 (ints ([x262])), .row A510 xs512.length c511 2 1 (ints xs512)] := hs
      have hs0 : St (muL [.blk ay 145 [.slice ak ar.length am, .int .i64 aH, .int .i64 az]]) W w [.row A258 n259 c260 2 1 (ints xs257), .blk ay 145 [.slice ak ar.length am, .int .i64 r397.2.1, .int .i64 r397.2.2]] := hs.sel [0, 1] (by decide)
      refine wpO_nil ⟨Or.inr (fun _ => hs0), ?_⟩
      refine mRun (i := 10) rfl (by kernel_rfl) ?_
      obtain ⟨xs516, ha517, hj461⟩ := bind_some hj461
      refine sAppendG (i := 3) (xs := xs512) (ys := xs485) (enc := ints) hf hs rfl rfl rfl rfl rfl rfl rfl (cut_len hn261 hk484) rfl ha517 el23 ti2 rfl rfl rfl (Rd.cutInts (hs.rd (i := 0) rfl) hn261 (hs.capR (i := 0) rfl) hk484) ints_len1 ints_append ints_one ?_; clear hf hs; intro a w A514 c515 hs hf
      have hs : St (muL [.blk ay 145 [.slice ak ar.length am, .int .i64 aH, .int .i64 az]]) W w [.row A258 n259 c260 2 1 (ints xs257), .blk ay 145 [.slice ak ar.length am, .int .i64 r397.2.1, .int .i64 r397.2.2], .row A502 1 1 2 1 (ints ([x262])), .row A514 xs516.length c515 2 1 (ints xs516)] := hs
      refine wpO_nil ⟨Or.inl (by decide), ?_⟩
      refine mYp (i := 11) rfl (by kernel_rfl) (by kernel_rfl) hf rfl rfl rfl (fun _ => Y_assign rfl rfl) ?_; clear hf; intro a hf
      refine mDone (by kernel_rfl) ?_
      clear hs0
      refine wpL_nil (then_normal ?_)
      exact ⟨xs516, A514, xs516.length, c515, Option.some.inj hj461, rfl, (FrD.pick (FrD.pick (FrD.pick (FrD.pick hf.none hf rfl) hf rfl) hf rfl) hf rfl), hs.sel [1, 3] (by decide)⟩
    ·rintro a w ⟨xs455, A456, n457, c458, hr_, hn459, hf, hs⟩
     subst hr_
     try dsimp only at hm394
     refine wpL_nil (Qb_normal ?_)
     refine wpL_region ?_
     refine sY hf hs rfl rfl rfl (Y_move rfl rfl) ?_; clear hf; intro a hf
     refine sY hf hs rfl rfl rfl (Y_add rfl rfl rfl) ?_; clear hf; intro a hf
     refine sY hf hs rfl rfl rfl (Y_assign rfl rfl) ?_; clear hf; intro a hf
     refine wpO_nil ?_
     refine wpL_nil (Ql_normal ?_)
     exact ⟨r397.2.1, r397.2.2, xs455, (IntKind.i64.wrap (x262 + 1)), A456, n457, c458, hm394, hn459, (FrD.pick (FrD.pick (FrD.pick (FrD.pick hf.none hf rfl) hf rfl) hf rfl) hf rfl), hs⟩
   ·have hm394 := bif_f hm394 hb396
    refine wpL_exit (Ql_exit (Qb_exit ?_))
    exact ⟨x255, x256, xs257, A258, n259, c260, Option.some.inj hm394, hn261, (FrD.pick hf.none hf rfl), hs⟩
 ·rintro a w ⟨x385, x386, xs387, A388, n389, c390, hr_, hn391, hf, hs⟩
  subst hr_
  try dsimp only at hm
  refine wpL_seq <| wpL_region ?_
  refine sY hf hs rfl rfl rfl (Y_move rfl rfl) ?_; clear hf; intro a hf
  refine sY hf hs rfl rfl rfl (Y_assign rfl rfl) ?_; clear hf; intro a hf
  refine wpO_nil ?_
  obtain rfl := Option.some.inj hm
  refine wpL_ret (ret_tmp rfl hf rfl ?_)
  exact ⟨_, rfl, A388, n389, c390, rfl, hn391, hs.sel [1, 0] (by decide)⟩

set_option maxRecDepth 100000 in
theorem spec_DrawRelabelGraph_ok (F : Nat) (aa : List Int) (ag : Option Addr) (aL ah : Nat) (aP : aL = aa.length) (r : GEventGraph × List Int) (W : World) (hm : spec_DrawRelabelGraph F aa = some r) (aG : Rd W ag (bytes aa)) :
  Calls Try.prog 64 [.slice ag aL ah].toArray W fun e w' => ∃ v, e = .returned v ∧ ∃ A41, ∃ n42, ∃ c43, ∃ A45, ∃ n46, ∃ c47, v = .tuple #[.agg #[.int .i64 r.1.Events, .slice A41 n42 c43], .slice A45 n46 c47] ∧ n42 = r.1.Places.length ∧ n46 = r.2.length ∧ St [] W w' [.row A41 n42 c43 127 4 ((recs GPlace.cells) r.1.Places), .row A45 n46 c47 2 1 (ints r.2)] := by
 subst aP
 unfold spec_DrawRelabelGraph at hm
 refine Calls.enter (N := 41) Try.func64 rfl rfl rfl (fun a hf => ?_)
 have hs := St.start W
 obtain ⟨w, hw_⟩ : ∃ w, w = W := ⟨W, rfl⟩
 clear hw_ w
 refine wpL_seq <| wpL_region ?_
 refine sAlloc hf hs rfl rfl rfl rfl ti59 ?_; clear hf hs; intro a w b1 hs hf
 have hs : St [] W w [.blk b1 59 [.int .i64 0, .slice none 0 0]] := hs
 refine sY hf hs rfl rfl rfl (Y_assign rfl rfl) ?_; clear hf; intro a hf
 refine wpO_nil <| wpL_seq <| wpL_region ?_
 refine sY hf hs rfl rfl rfl (Y_move rfl rfl) ?_; clear hf; intro a hf
 obtain ⟨r2, hc3, hm⟩ := bind_some hm
 refine sCall hf rfl rfl rfl rfl (cap := []) rfl rfl en101 (spec_l01From_ok F aa ag aa.length ah rfl _ _ hc3 (aG.at hs)) ?_; clear hf
 rintro _ w ⟨b4, rfl, hs1⟩ a hf
 have hs : St [] W w [.blk b1 59 [.int .i64 0, .slice none 0 0], .blk b4 145 [.slice ag aa.length ah, .int .i64 r2.1, .int .i64 r2.2]] := hs.join hs1
 clear hs1
 refine sY hf hs rfl rfl rfl (Y_assign rfl rfl) ?_; clear hf; intro a hf
 refine wpO_nil <| wpL_seq <| wpL_region ?_
 refine sY hf hs rfl rfl rfl (Y_move rfl rfl) ?_; clear hf; intro a hf
 obtain ⟨r5, hc6, hm⟩ := bind_some hm
 refine sCall hf rfl rfl rfl rfl (cap := []) rfl rfl en125 (spec_l11Draw_ok F b4 aa ag aa.length ah rfl r2.1 r2.2 _ _ hc6 (aG.pass hs [1]) (hs.sel [1] (by decide)).rebase) ?_; clear hf
 rintro _ w ⟨A7, n8, c9, rfl, hn10, hs1⟩ a hf
 have hs : St [] W w [.blk b1 59 [.int .i64 0, .slice none 0 0], .row A7 n8 c9 127 4 ((recs GPlace.cells) r5.1.Places), .blk b4 145 [.slice ag aa.length ah, .int .i64 r5.2.1, .int .i64 r5.2.2]] := St.mutTail (La := [.blk b1 59 [.int .i64 0, .slice none 0 0]]) (Lb := [.blk b4 145 [.slice ag aa.length ah, .int .i64 r2.1, .int .i64 r2.2]]) (hs.sel [0, 1] (by decide)) hs1
 clear hs1
 refine sAlloc hf hs rfl rfl rfl rfl ti59 ?_; clear hf hs; intro a w b11 hs hf
 have hs : St [] W w [.blk b1 59 [.int .i64 0, .slice none 0 0], .row A7 n8 c9 127 4 ((recs GPlace.cells) r5.1.Places), .blk b4 145 [.slice ag aa.length ah, .int .i64 r5.2.1, .int .i64 r5.2.2], .blk b11 59 [.int .i64 0, .slice none 0 0]] := hs
 refine sStore (i := 3) (us := [.int .i64 r5.1.Events, .slice A7 n8 c9]) hf hs rfl rfl rfl rfl rfl rfl ti59 rfl rfl rfl (Nat.le_of_ble_eq_true rfl) rfl ?_; clear hs; intro w hs
 have hs : St [] W w [.blk b1 59 [.int .i64 0, .slice none 0 0], .row A7 n8 c9 127 4 ((recs GPlace.cells) r5.1.Places), .blk b4 145 [.slice ag aa.length ah, .int .i64 r5.2.1, .int .i64 r5.2.2], .blk b11 59 [.int .i64 r5.1.Events, .slice A7 n8 c9]] := hs
 refine wpO_nil <| wpL_seq <| wpL_region ?_
 refine sY hf hs rfl rfl rfl (Y_move rfl rfl) ?_; clear hf; intro a hf
 refine sY hf hs rfl rfl rfl (Y_fieldAddr rfl rfl fo59_0) ?_; clear hf; intro a hf
 refine sY hf hs rfl rfl rfl (Y_load_blk rfl rfl (i := 3) rfl rfl ag2) ?_; clear hf; intro a hf
 obtain ⟨r12, hc13, hm⟩ := bind_some hm
 refine sCall hf rfl rfl rfl rfl (cap := []) rfl rfl en150 (spec_l19DrawOrder_ok F b4 aa ag aa.length ah rfl r5.2.1 r5.2.2 r5.1.Events _ _ hc13 (aG.pass hs [2]) (hs.sel [2] (by decide)).rebase) ?_; clear hf
 rintro _ w ⟨A14, n15, c16, rfl, hn17, hs1⟩ a hf
 have hs : St [] W w [.blk b1 59 [.int .i64 0, .slice none 0 0], .row A7 n8 c9 127 4 ((recs GPlace.cells) r5.1.Places), .blk b11 59 [.int .i64 r5.1.Events, .slice A7 n8 c9], .row A14 n15 c16 2 1 (ints r12.1), .blk b4 145 [.slice ag aa.length ah, .int .i64 r12.2.1, .int .i64 r12.2.2]] := St.mutTail (La := [.blk b1 59 [.int .i64 0, .slice none 0 0], .row A7 n8 c9 127 4 ((recs GPlace.cells) r5.1.Places), .blk b11 59 [.int .i64 r5.1.Events, .slice A7 n8 c9]]) (Lb := [.blk b4 145 [.slice ag aa.length ah, .int .i64 r5.2.1, .int .i64 r5.2.2]]) (hs.sel [0, 1, 3, 2] (by decide)) hs1
 clear hs1
 refine sY hf hs rfl rfl rfl (Y_assign rfl rfl) ?_; clear hf; intro a hf
 refine wpO_nil <| wpL_seq <| wpL_seq <| wpL_region ?_
 refine sY hf hs rfl rfl rfl (Y_move rfl rfl) ?_; clear hf; intro a hf
 obtain ⟨r18, hc19, hm⟩ := bind_some hm
 refine sCall hf rfl rfl rfl rfl (cap := []) rfl rfl en107 (spec_l01Next_ok F b4 aa ag aa.length ah rfl r12.2.1 r12.2.2 20 _ _ hc19 (aG.pass hs [4]) (hs.sel [4] (by decide)).rebase) ?_; clear hf
 rintro _ w ⟨rfl, hs1⟩ a hf
 have hs : St [] W w [.blk b1 59 [.int .i64 0, .slice none 0 0], .row A7 n8 c9 127 4 ((recs GPlace.cells) r5.1.Places), .blk b11 59 [.int .i64 r5.1.Events, .slice A7 n8 c9], .row A14 n15 c16 2 1 (ints r12.1), .blk b4 145 [.slice ag aa.length ah, .int .i64 r18.2.1, .int .i64 r18.2.2]] := St.mutTail (La := [.blk b1 59 [.int .i64 0, .slice none 0 0], .row A7 n8 c9 127 4 ((recs GPlace.cells) r5.1.Places), .blk b11 59 [.int .i64 r5.1.Events, .slice A7 n8 c9], .row A14 n15 c16 2 1 (ints r12.1)]) (Lb := [.blk b4 145 [.slice ag aa.length ah, .int .i64 r12.2.1, .int .i64 r12.2.2]]) (hs.sel [0, 1, 2, 3, 4] (by decide)) hs1
 clear hs1
 refine wpO_nil <| wpL_block0 <| wpL_seq <| wpL_region ?_
 refine sY hf hs rfl rfl rfl (Y_eql rfl rfl rfl) ?_; clear hf; intro a hf
 refine sY hf hs rfl rfl rfl (Y_assign rfl rfl) ?_; clear hf; intro a hf
 refine wpO_nil ?_
 refine wpL_cond hf rfl (fun hb20 => ?_) (fun hb20 => ?_)
 ·have hm := bif_t hm hb20
  refine wpL_region ?_
  refine sY hf hs rfl rfl rfl (Y_move rfl rfl) ?_; clear hf; intro a hf
  refine sY hf hs rfl rfl rfl (Y_move rfl rfl) ?_; clear hf; intro a hf
  refine sY hf hs rfl rfl rfl (Y_fieldAddr rfl rfl fo59_0) ?_; clear hf; intro a hf
  refine sY hf hs rfl rfl rfl (Y_load_blk rfl rfl (i := 2) rfl rfl ag2) ?_; clear hf; intro a hf
  refine sBuildSlice (parts := [(0, .const (.int .i64 0)), (1, .tmp 22)]) (vs := [.int .i64 0, .int .i64 r5.1.Events]) (cells := [.int .i64 0, .int .i64 r5.1.Events]) hf hs rfl rfl rfl rfl rfl el23 ti2 rfl rfl rfl rfl ?_; clear hf hs; intro a w A21 hs hA22 hf
  have hs : St [] W w [.blk b1 59 [.int .i64 0, .slice none 0 0], .row A7 n8 c9 127 4 ((recs GPlace.cells) r5.1.Places), .blk b11 59 [.int .i64 r5.1.Events, .slice A7 n8 c9], .row A14 n15 c16 2 1 (ints r12.1), .blk b4 145 [.slice ag aa.length ah, .int .i64 r18.2.1, .int .i64 r18.2.2], .row A21 2 2 2 1 (ints ([0, r5.1.Events]))] := hs
  obtain ⟨r23, hc24, hm⟩ := bind_some hm
  refine sCall hf rfl rfl rfl rfl (cap := []) rfl rfl en114 (spec_l01Pick_ok F b4 aa ag aa.length ah rfl r18.2.1 r18.2.2 ([0, r5.1.Events]) A21 2 2 rfl _ _ hc24 (aG.pass hs [4]) (hs.keepR (i := 5) rfl [4] (by decide)) (hs.sel [4] (by decide)).rebase) ?_; clear hf
  rintro _ w ⟨rfl, hs1⟩ a hf
  have hs : St [] W w [.blk b1 59 [.int .i64 0, .slice none 0 0], .row A7 n8 c9 127 4 ((recs GPlace.cells) r5.1.Places), .blk b11 59 [.int .i64 r5.1.Events, .slice A7 n8 c9], .row A14 n15 c16 2 1 (ints r12.1), .row A21 2 2 2 1 (ints ([0, r5.1.Events])), .blk b4 145 [.slice ag aa.length ah, .int .i64 r23.2.1, .int .i64 r23.2.2]] := St.mutTail (La := [.blk b1 59 [.int .i64 0, .slice none 0 0], .row A7 n8 c9 127 4 ((recs GPlace.cells) r5.1.Places), .blk b11 59 [.int .i64 r5.1.Events, .slice A7 n8 c9], .row A14 n15 c16 2 1 (ints r12.1), .row A21 2 2 2 1 (ints ([0, r5.1.Events]))]) (Lb := [.blk b4 145 [.slice ag aa.length ah, .int .i64 r18.2.1, .int .i64 r18.2.2]]) (hs.sel [0, 1, 2, 3, 5, 4] (by decide)) hs1
  clear hs1
  refine sBuildSlice (parts := [(0, .tmp 24)]) (vs := [.int .i64 r23.1]) (cells := [.int .i64 r23.1]) hf hs rfl rfl rfl rfl rfl el23 ti2 rfl rfl rfl rfl ?_; clear hf hs; intro a w A25 hs hA26 hf
  have hs : St [] W w [.blk b1 59 [.int .i64 0, .slice none 0 0], .row A7 n8 c9 127 4 ((recs GPlace.cells) r5.1.Places), .blk b11 59 [.int .i64 r5.1.Events, .slice A7 n8 c9], .row A14 n15 c16 2 1 (ints r12.1), .row A21 2 2 2 1 (ints ([0, r5.1.Events])), .blk b4 145 [.slice ag aa.length ah, .int .i64 r23.2.1, .int .i64 r23.2.2], .row A25 1 1 2 1 (ints ([r23.1]))] := hs
  obtain ⟨xs29, ha30, hm⟩ := bind_some hm
  refine sAppendL (i := 3) (xs := r12.1) (ys := [r23.1]) (enc := ints) hf hs rfl rfl rfl rfl rfl rfl hn17 rfl rfl ha30 el23 ti2 rfl rfl rfl (hs.rd (i := 6) rfl) (Nat.succ_pos _) ints_len1 ints_append ints_one ?_; clear hf hs; intro a w A27 c28 hs hf
  have hs : St [] W w [.blk b1 59 [.int .i64 0, .slice none 0 0], .row A7 n8 c9 127 4 ((recs GPlace.cells) r5.1.Places), .blk b11 59 [.int .i64 r5.1.Events, .slice A7 n8 c9], .row A27 xs29.length c28 2 1 (ints xs29), .row A21 2 2 2 1 (ints ([0, r5.1.Events])), .blk b4 145 [.slice ag aa.length ah, .int .i64 r23.2.1, .int .i64 r23.2.2], .row A25 1 1 2 1 (ints ([r23.1]))] := hs
  refine sY hf hs rfl rfl rfl (Y_assign rfl rfl) ?_; clear hf; intro a hf
  refine wpO_nil ?_
  refine wpL_nil (Qb_normal ?_)
  refine wpL_seq <| wpL_region ?_
  refine sY hf hs rfl rfl rfl (Y_load_blkS rfl rfl (i := 2) rfl ag59 ti59 rfl) ?_; clear hf; intro a hf
  refine sY hf hs rfl rfl rfl (Y_move rfl rfl) ?_; clear hf; intro a hf
  refine sStore (i := 0) (us := [.int .i64 r5.1.Events, .slice A7 n8 c9]) hf hs rfl rfl rfl rfl rfl rfl ti59 rfl rfl rfl (Nat.le_of_ble_eq_true rfl) rfl ?_; clear hs; intro w hs
  have hs : St [] W w [.blk b1 59 [.int .i64 r5.1.Events, .slice A7 n8 c9], .row A7 n8 c9 127 4 ((recs GPlace.cells) r5.1.Places), .blk b11 59 [.int .i64 r5.1.Events, .slice A7 n8 c9], .row A27 xs29.length c28 2 1 (ints xs29), .row A21 2 2 2 1 (ints ([0, r5.1.Events])), .blk b4 145 [.slice ag aa.length ah, .int .i64 r23.2.1, .int .i64 r23.2.2], .row A25 1 1 2 1 (ints ([r23.1]))] := hs
  refine sY hf hs rfl rfl rfl (Y_assign rfl rfl) ?_; clear hf; intro a hf
  refine wpO_nil ?_
  obtain rfl := Option.some.inj hm
  refine wpL_ret (ret_cell_tmp rfl hf rfl rfl hs (i := 0) rfl ag59 ti59 rfl ?_)
  exact ⟨_, rfl, A7, n8, c9, A27, xs29.length, c28, rfl, hn10, rfl, hs.sel [1, 3] (by decide)⟩
 ·have hm := bif_f hm hb20
  refine wpL_seq <| wpL_region ?_
  refine sY hf hs rfl rfl rfl (Y_eql rfl rfl rfl) ?_; clear hf; intro a hf
  refine sY hf hs rfl rfl rfl (Y_assign rfl rfl) ?_; clear hf; intro a hf
  refine wpO_nil ?_
  refine wpL_cond hf rfl (fun hb31 => ?_) (fun hb31 => ?_)
  ·have hm := bif_t hm hb31
   refine wpL_seq <| wpL_region ?_
   refine sY hf hs rfl rfl rfl (Y_move rfl rfl) ?_; clear hf; intro a hf
   refine sY hf hs rfl rfl rfl (Y_lenH rfl rfl el23 hn17) ?_; clear hf; intro a hf
   refine sY hf hs rfl rfl rfl (Y_gtr rfl rfl rfl) ?_; clear hf; intro a hf
   refine wpO_nil ?_
   refine wpL_cond hf rfl (fun hb32 => ?_) (fun hb32 => ?_)
   ·have hm := bif_t hm hb32
    refine wpL_region ?_
    refine sY hf hs rfl rfl rfl (Y_move rfl rfl) ?_; clear hf; intro a hf
    refine sY hf hs rfl rfl rfl (Y_move rfl rfl) ?_; clear hf; intro a hf
    refine sY hf hs rfl rfl rfl (Y_fieldAddr rfl rfl fo59_0) ?_; clear hf; intro a hf
    refine sY hf hs rfl rfl rfl (Y_load_blk rfl rfl (i := 2) rfl rfl ag2) ?_; clear hf; intro a hf
    refine sBuildSlice (parts := [(0, .const (.int .i64 (-1))), (1, .tmp 35), (2, .const (.int .i64 0))]) (vs := [.int .i64 (-1), .int .i64 r5.1.Events, .int .i64 0]) (cells := [.int .i64 (-1), .int .i64 r5.1.Events, .int .i64 0]) hf hs rfl rfl rfl rfl rfl el23 ti2 rfl rfl rfl rfl ?_; clear hf hs; intro a w A33 hs hA34 hf
    have hs : St [] W w [.blk b1 59 [.int .i64 0, .slice none 0 0], .row A7 n8 c9 127 4 ((recs GPlace.cells) r5.1.Places), .blk b11 59 [.int .i64 r5.1.Events, .slice A7 n8 c9], .row A14 n15 c16 2 1 (ints r12.1), .blk b4 145 [.slice ag aa.length ah, .int .i64 r18.2.1, .int .i64 r18.2.2], .row A33 3 3 2 1 (ints ([(-1), r5.1.Events, 0]))] := hs
    obtain ⟨r35, hc36, hm⟩ := bind_some hm
    refine sCall hf rfl rfl rfl rfl (cap := []) rfl rfl en114 (spec_l01Pick_ok F b4 aa ag aa.length ah rfl r18.2.1 r18.2.2 ([(-1), r5.1.Events, 0]) A33 3 3 rfl _ _ hc36 (aG.pass hs [4]) (hs.keepR (i := 5) rfl [4] (by decide)) (hs.sel [4] (by decide)).rebase) ?_; clear hf
    rintro _ w ⟨rfl, hs1⟩ a hf
    have hs : St [] W w [.blk b1 59 [.int .i64 0, .slice none 0 0], .row A7 n8 c9 127 4 ((recs GPlace.cells) r5.1.Places), .blk b11 59 [.int .i64 r5.1.Events, .slice A7 n8 c9], .row A14 n15 c16 2 1 (ints r12.1), .row A33 3 3 2 1 (ints ([(-1), r5.1.Events, 0])), .blk b4 145 [.slice ag aa.length ah, .int .i64 r35.2.1, .int .i64 r35.2.2]] := St.mutTail (La := [.blk b1 59 [.int .i64 0, .slice none 0 0], .row A7 n8 c9 127 4 ((recs GPlace.cells) r5.1.Places), .blk b11 59 [.int .i64 r5.1.Events, .slice A7 n8 c9], .row A14 n15 c16 2 1 (ints r12.1), .row A33 3 3 2 1 (ints ([(-1), r5.1.Events, 0]))]) (Lb := [.blk b4 145 [.slice ag aa.length ah, .int .i64 r18.2.1, .int .i64 r18.2.2]]) (hs.sel [0, 1, 2, 3, 5, 4] (by decide)) hs1
    clear hs1
    obtain ⟨q37, hi38, hm⟩ := bind_some hm
    obtain ⟨hi38a, hi38b, hi38q⟩ := idx_some hi38
    refine sY hf hs rfl rfl rfl (Y_index rfl rfl rfl el23 ti2 (Rd.isAt (hs.rd (i := 3) rfl) (at1 (ints_at hi38q))) hi38a (ltn hn17 hi38b)) ?_; clear hf; intro a hf
    obtain ⟨xs39, hu40, hm⟩ := bind_some hm
    refine sStoreL (i := 3) (us := [.int .i64 r35.1]) (enc := ints) hf hs rfl rfl rfl rfl rfl rfl hn17 hu40 ti2 rfl rfl rfl rfl rfl ints_len1 (ints_set r35.1) ?_; clear hs; intro w hs
    have hs : St [] W w [.blk b1 59 [.int .i64 0, .slice none 0 0], .row A7 n8 c9 127 4 ((recs GPlace.cells) r5.1.Places), .blk b11 59 [.int .i64 r5.1.Events, .slice A7 n8 c9], .row A14 n15 c16 2 1 (ints xs39), .row A33 3 3 2 1 (ints ([(-1), r5.1.Events, 0])), .blk b4 145 [.slice ag aa.length ah, .int .i64 r35.2.1, .int .i64 r35.2.2]] := hs
    refine wpO_nil ?_
    refine wpL_nil (Qb_normal ?_)
    refine wpL_seq <| wpL_region ?_
    refine sY hf hs rfl rfl rfl (Y_load_blkS rfl rfl (i := 2) rfl ag59 ti59 rfl) ?_; clear hf; intro a hf
    refine sY hf hs rfl rfl rfl (Y_move rfl rfl) ?_; clear hf; intro a hf
    refine sStore (i := 0) (us := [.int .i64 r5.1.Events, .slice A7 n8 c9]) hf hs rfl rfl rfl rfl rfl rfl ti59 rfl rfl rfl (Nat.le_of_ble_eq_true rfl) rfl ?_; clear hs; intro w hs
    have hs : St [] W w [.blk b1 59 [.int .i64 r5.1.Events, .slice A7 n8 c9], .row A7 n8 c9 127 4 ((recs GPlace.cells) r5.1.Places), .blk b11 59 [.int .i64 r5.1.Events, .slice A7 n8 c9], .row A14 n15 c16 2 1 (ints xs39), .row A33 3 3 2 1 (ints ([(-1), r5.1.Events, 0])), .blk b4 145 [.slice ag aa.length ah, .int .i64 r35.2.1, .int .i64 r35.2.2]] := hs
    refine sY hf hs rfl rfl rfl (Y_assign rfl rfl) ?_; clear hf; intro a hf
    refine wpO_nil ?_
    obtain rfl := Option.some.inj hm
    refine wpL_ret (ret_cell_tmp rfl hf rfl rfl hs (i := 0) rfl ag59 ti59 rfl ?_)
    exact ⟨_, rfl, A7, n8, c9, A14, n15, c16, rfl, hn10, ((hn17).trans (upd_len hu40).symm), hs.sel [1, 3] (by decide)⟩
   ·have hm := bif_f hm hb32
    refine wpL_skip ?_
    refine wpL_nil (Qb_normal ?_)
    refine wpL_seq <| wpL_region ?_
    refine sY hf hs rfl rfl rfl (Y_load_blkS rfl rfl (i := 2) rfl ag59 ti59 rfl) ?_; clear hf; intro a hf
    refine sY hf hs rfl rfl rfl (Y_move rfl rfl) ?_; clear hf; intro a hf
    refine sStore (i := 0) (us := [.int .i64 r5.1.Events, .slice A7 n8 c9]) hf hs rfl rfl rfl rfl rfl rfl ti59 rfl rfl rfl (Nat.le_of_ble_eq_true rfl) rfl ?_; clear hs; intro w hs
    have hs : St [] W w [.blk b1 59 [.int .i64 r5.1.Events, .slice A7 n8 c9], .row A7 n8 c9 127 4 ((recs GPlace.cells) r5.1.Places), .blk b11 59 [.int .i64 r5.1.Events, .slice A7 n8 c9], .row A14 n15 c16 2 1 (ints r12.1), .blk b4 145 [.slice ag aa.length ah, .int .i64 r18.2.1, .int .i64 r18.2.2]] := hs
    refine sY hf hs rfl rfl rfl (Y_assign rfl rfl) ?_; clear hf; intro a hf
    refine wpO_nil ?_
    obtain rfl := Option.some.inj hm
    refine wpL_ret (ret_cell_tmp rfl hf rfl rfl hs (i := 0) rfl ag59 ti59 rfl ?_)
    exact ⟨_, rfl, A7, n8, c9, A14, n15, c16, rfl, hn10, hn17, hs.sel [1, 3] (by decide)⟩
  ·have hm := bif_f hm hb31
   refine wpL_skip ?_
   refine wpL_nil (Qb_normal ?_)
   refine wpL_seq <| wpL_region ?_
   refine sY hf hs rfl rfl rfl (Y_load_blkS rfl rfl (i := 2) rfl ag59 ti59 rfl) ?_; clear hf; intro a hf
   refine sY hf hs rfl rfl rfl (Y_move rfl rfl) ?_; clear hf; intro a hf
   refine sStore (i := 0) (us := [.int .i64 r5.1.Events, .slice A7 n8 c9]) hf hs rfl rfl rfl rfl rfl rfl ti59 rfl rfl rfl (Nat.le_of_ble_eq_true rfl) rfl ?_; clear hs; intro w hs
   have hs : St [] W w [.blk b1 59 [.int .i64 r5.1.Events, .slice A7 n8 c9], .row A7 n8 c9 127 4 ((recs GPlace.cells) r5.1.Places), .blk b11 59 [.int .i64 r5.1.Events, .slice A7 n8 c9], .row A14 n15 c16 2 1 (ints r12.1), .blk b4 145 [.slice ag aa.length ah, .int .i64 r18.2.1, .int .i64 r18.2.2]] := hs
   refine sY hf hs rfl rfl rfl (Y_assign rfl rfl) ?_; clear hf; intro a hf
   refine wpO_nil ?_
   obtain rfl := Option.some.inj hm
   refine wpL_ret (ret_cell_tmp rfl hf rfl rfl hs (i := 0) rfl ag59 ti59 rfl ?_)
   exact ⟨_, rfl, A7, n8, c9, A14, n15, c16, rfl, hn10, hn17, hs.sel [1, 3] (by decide)⟩

set_option maxRecDepth 100000 in
theorem impl_allWithin_ok (F : Nat) (aM : List Int) (aO : Option Addr) (aT aW : Nat) (aZ : aT = aM.length) (bb : Int) (aY : Int) (r : Bool) (W : World) (hm : impl_allWithin F aM bb aY = some r) (aR : Rd W aO (ints aM)) :
  Calls Try.prog 121 [.slice aO aT aW, .int .i64 bb, .int .i64 aY].toArray W fun e w' => ∃ v, e = .returned v ∧ v = .bool r ∧ St [] W w' [] := by
 subst aZ
 unfold impl_allWithin at hm
 refine Calls.enter (N := 21) Try.func121 rfl rfl rfl (fun a hf => ?_)
 have hs := St.start W
 obtain ⟨w, hw_⟩ : ∃ w, w = W := ⟨W, rfl⟩
 clear hw_ w
 refine wpL_seq <| wpL_region ?_
 refine sY hf hs rfl rfl rfl (Y_assign rfl rfl) ?_; clear hf; intro a hf
 refine wpO_nil <| wpL_seq <| wpL_seq <| wpL_region ?_
 refine sY hf hs rfl rfl rfl (Y_move rfl rfl) ?_; clear hf; intro a hf
 refine sY hf hs rfl rfl rfl (Y_lenH rfl rfl el23 rfl) ?_; clear hf; intro a hf
 refine sY hf hs rfl rfl rfl (Y_move rfl rfl) ?_; clear hf; intro a hf
 refine wpO_nil ?_
 obtain ⟨r21, hl22, hm⟩ := bind_some hm
 refine wpL_block (fun a w => Sum.inr () = r21 ∧ Fr a 21 [] ∧ St [] W w []) ?_ ?_
 ·refine wpL_loop (fun n a w => ∃ x14 : Int, impl_allWithin_L1 F aM bb aY n x14 = some r21 ∧ Fr a 21 [(1, .int .i64 bb), (2, .int .i64 aY), (9, .slice aO aM.length aW), (10, .int .i64 (aM.length : Int)), (11, .int .i64 x14)] ∧ St [] W w []) F ?_ ?_ ?_
  ·exact ⟨0, hl22, (FrD.pick (FrD.pick (FrD.pick (FrD.pick (FrD.pick hf.none hf rfl) hf rfl) hf rfl) hf rfl) hf rfl), hs⟩
  ·rintro a w ⟨x14, h0_, -, -⟩; simp [impl_allWithin_L1] at h0_
  ·rintro n24 a w ⟨x14, hm23, hf, hs⟩
   rw [impl_allWithin_L1] at hm23
   refine wpL_seq <| wpL_region ?_
   refine sY hf hs rfl rfl rfl (Y_lss rfl rfl rfl) ?_; clear hf; intro a hf
   refine wpO_nil <| wpL_seq ?_
   refine wpL_cond hf rfl (fun hb25 => ?_) (fun hb25 => ?_)
   ·have hm23 := bif_t hm23 hb25
    refine wpL_skip <| wpL_seq <| wpL_block0 <| wpL_seq <| wpL_region ?_
    obtain ⟨q26, hi27, hm23⟩ := bind_some hm23
    obtain ⟨hi27a, hi27b, hi27q⟩ := idx_some hi27
    refine sY hf hs rfl rfl rfl (Y_index rfl rfl rfl el23 ti2 (Rd.isAt (aR.at hs) (at1 (ints_at hi27q))) hi27a hi27b) ?_; clear hf; intro a hf
    refine sY hf hs rfl rfl rfl (Y_load_rd rfl rfl (fun w hs => aR.at hs) (at1 (ints_at hi27q)) ag2) ?_; clear hf; intro a hf
    refine sY hf hs rfl rfl rfl (Y_assign rfl rfl) ?_; clear hf; intro a hf
    refine wpO_nil <| wpL_seq <| wpL_region ?_
    refine sY hf hs rfl rfl rfl (Y_move rfl rfl) ?_; clear hf; intro a hf
    refine sY hf hs rfl rfl rfl (Y_move rfl rfl) ?_; clear hf; intro a hf
    refine sY hf hs rfl rfl rfl (Y_move rfl rfl) ?_; clear hf; intro a hf
    obtain ⟨r28, hc29, hm23⟩ := bind_some hm23
    refine sCall hf rfl rfl rfl rfl (cap := []) rfl rfl en105 (impl_within_ok F q26 bb aY _ _ hc29) ?_; clear hf
    rintro _ w ⟨rfl, hs1⟩ a hf
    have hs : St [] W w [] := hs.ext hs1.below
    clear hs1
    refine sY hf hs rfl rfl rfl (Y_not rfl rfl) ?_; clear hf; intro a hf
    refine wpO_nil ?_
    refine wpL_cond hf rfl (fun hb30 => ?_) (fun hb30 => ?_)
    ·have hm23 := bif_t hm23 hb30
     refine wpL_seq <| wpL_region ?_
     refine sY hf hs rfl rfl rfl (Y_assign rfl rfl) ?_; clear hf; intro a hf
     refine wpO_nil ?_
     obtain rfl := Option.some.inj hm23
     try dsimp only at hm
     obtain rfl := Option.some.inj hm
     refine wpL_ret (Qb_ret (Ql_ret (Qb_ret (ret_tmp rfl hf rfl ?_))))
     exact ⟨_, rfl, rfl, hs⟩
    ·have hm23 := bif_f hm23 hb30
     refine wpL_skip ?_
     refine wpL_nil (Qb_normal ?_)
     refine wpL_region ?_
     refine sY hf hs rfl rfl rfl (Y_add rfl rfl rfl) ?_; clear hf; intro a hf
     refine sY hf hs rfl rfl rfl (Y_move rfl rfl) ?_; clear hf; intro a hf
     refine wpO_nil ?_
     refine wpL_nil (Ql_normal ?_)
     exact ⟨(IntKind.i64.wrap (x14 + 1)), hm23, (FrD.pick (FrD.pick (FrD.pick (FrD.pick (FrD.pick hf.none hf rfl) hf rfl) hf rfl) hf rfl) hf rfl), hs⟩
   ·have hm23 := bif_f hm23 hb25
    refine wpL_exit (Ql_exit (Qb_exit ?_))
    exact ⟨Option.some.inj hm23, hf.none, hs⟩
 ·rintro a w ⟨hr_, hf, hs⟩
  subst hr_
  try dsimp only at hm
  refine wpL_seq <| wpL_region ?_
  refine sY hf hs rfl rfl rfl (Y_assign rfl rfl) ?_; clear hf; intro a hf
  refine wpO_nil ?_
  obtain rfl := Option.some.inj hm
  refine wpL_ret (ret_tmp rfl hf rfl ?_)
  exact ⟨_, rfl, rfl, hs⟩

set_option maxRecDepth 100000 in
theorem slices_Index_int64_ok (F : Nat) (aE : List Int) (au : Option Addr) (aK aA : Nat) (aV : aK = aE.length) (bU : Int) (r : Int) (W : World) (hm : slices_Index_int64 F aE bU = some r) (aS : Rd W au (ints aE)) :
  Calls Try.prog 145 [.slice au aK aA, .int .i64 bU].toArray W fun e w' => ∃ v, e = .returned v ∧ v = .int .i64 r ∧ St [] W w' [] := by
 subst aV
 unfold slices_Index_int64 at hm
 refine Calls.enter (N := 19) Try.func145 rfl rfl rfl (fun a hf => ?_)
 have hs := St.start W
 obtain ⟨w, hw_⟩ : ∃ w, w = W := ⟨W, rfl⟩
 clear hw_ w
 refine wpL_seq <| wpL_region ?_
 refine sY hf hs rfl rfl rfl (Y_assign rfl rfl) ?_; clear hf; intro a hf
 refine wpO_nil <| wpL_seq <| wpL_seq <| wpL_region ?_
 refine sY hf hs rfl rfl rfl (Y_move rfl rfl) ?_; clear hf; intro a hf
 refine sY hf hs rfl rfl rfl (Y_lenH rfl rfl el23 rfl) ?_; clear hf; intro a hf
 refine sY hf hs rfl rfl rfl (Y_move rfl rfl) ?_; clear hf; intro a hf
 refine wpO_nil ?_
 obtain ⟨r15, hl16, hm⟩ := bind_some hm
 refine wpL_block (fun a w => Sum.inr () = r15 ∧ Fr a 19 [] ∧ St [] W w []) ?_ ?_
 ·refine wpL_loop (fun n a w => ∃ x10 : Int, slices_Index_int64_L1 F aE bU n x10 = some r15 ∧ Fr a 19 [(0, .slice au aE.length aA), (1, .int .i64 bU), (7, .int .i64 (aE.length : Int)), (8, .int .i64 x10)] ∧ St [] W w []) F ?_ ?_ ?_
  ·exact ⟨0, hl16, (FrD.pick (FrD.pick (FrD.pick (FrD.pick hf.none hf rfl) hf rfl) hf rfl) hf rfl), hs⟩
  ·rintro a w ⟨x10, h0_, -, -⟩; simp [slices_Index_int64_L1] at h0_
  ·rintro n18 a w ⟨x10, hm17, hf, hs⟩
   rw [slices_Index_int64_L1] at hm17
   refine wpL_seq <| wpL_region ?_
   refine sY hf hs rfl rfl rfl (Y_lss rfl rfl rfl) ?_; clear hf; intro a hf
   refine wpO_nil <| wpL_seq ?_
   refine wpL_cond hf rfl (fun hb19 => ?_) (fun hb19 => ?_)
   ·have hm17 := bif_t hm17 hb19
    refine wpL_skip <| wpL_seq <| wpL_block0 <| wpL_seq <| wpL_region ?_
    refine sY hf hs rfl rfl rfl (Y_move rfl rfl) ?_; clear hf; intro a hf
    refine sY hf hs rfl rfl rfl (Y_assign rfl rfl) ?_; clear hf; intro a hf
    refine wpO_nil <| wpL_seq <| wpL_region ?_
    refine sY hf hs rfl rfl rfl (Y_move rfl rfl) ?_; clear hf; intro a hf
    refine sY hf hs rfl rfl rfl (Y_move rfl rfl) ?_; clear hf; intro a hf
    refine sY hf hs rfl rfl rfl (Y_move rfl rfl) ?_; clear hf; intro a hf
    obtain ⟨q20, hi21, hm17⟩ := bind_some hm17
    obtain ⟨hi21a, hi21b, hi21q⟩ := idx_some hi21
    refine sY hf hs rfl rfl rfl (Y_index rfl rfl rfl el23 ti2 (Rd.isAt (aS.at hs) (at1 (ints_at hi21q))) hi21a hi21b) ?_; clear hf; intro a hf
    refine sY hf hs rfl rfl rfl (Y_load_rd rfl rfl (fun w hs => aS.at hs) (at1 (ints_at hi21q)) ag2) ?_; clear hf; intro a hf
    refine sY hf hs rfl rfl rfl (Y_eql rfl rfl rfl) ?_; clear hf; intro a hf
    refine wpO_nil ?_
    refine wpL_cond hf rfl (fun hb22 => ?_) (fun hb22 => ?_)
    ·have hm17 := bif_t hm17 hb22
     refine wpL_seq <| wpL_region ?_
     refine sY hf hs rfl rfl rfl (Y_move rfl rfl) ?_; clear hf; intro a hf
     refine sY hf hs rfl rfl rfl (Y_assign rfl rfl) ?_; clear hf; intro a hf
     refine wpO_nil ?_
     obtain rfl := Option.some.inj hm17
     try dsimp only at hm
     obtain rfl := Option.some.inj hm
     refine wpL_ret (Qb_ret (Ql_ret (Qb_ret (ret_tmp rfl hf rfl ?_))))
     exact ⟨_, rfl, rfl, hs⟩
    ·have hm17 := bif_f hm17 hb22
     refine wpL_skip ?_
     refine wpL_nil (Qb_normal ?_)
     refine wpL_region ?_
     refine sY hf hs rfl rfl rfl (Y_add rfl rfl rfl) ?_; clear hf; intro a hf
     refine sY hf hs rfl rfl rfl (Y_move rfl rfl) ?_; clear hf; intro a hf
     refine wpO_nil ?_
     refine wpL_nil (Ql_normal ?_)
     exact ⟨(IntKind.i64.wrap (x10 + 1)), hm17, (FrD.pick (FrD.pick (FrD.pick (FrD.pick hf.none hf rfl) hf rfl) hf rfl) hf rfl), hs⟩
   ·have hm17 := bif_f hm17 hb19
    refine wpL_exit (Ql_exit (Qb_exit ?_))
    exact ⟨Option.some.inj hm17, hf.none, hs⟩
 ·rintro a w ⟨hr_, hf, hs⟩
  subst hr_
  try dsimp only at hm
  refine wpL_seq <| wpL_region ?_
  refine sY hf hs rfl rfl rfl (Y_assign rfl rfl) ?_; clear hf; intro a hf
  refine wpO_nil ?_
  obtain rfl := Option.some.inj hm
  refine wpL_ret (ret_tmp rfl hf rfl ?_)
  exact ⟨_, rfl, rfl, hs⟩

set_option maxRecDepth 100000 in
theorem slices_Contains_int64_ok (F : Nat) (aE : List Int) (au : Option Addr) (aK aA : Nat) (aV : aK = aE.length) (bU : Int) (r : Bool) (W : World) (hm : slices_Contains_int64 F aE bU = some r) (aS : Rd W au (ints aE)) :
  Calls Try.prog 151 [.slice au aK aA, .int .i64 bU].toArray W fun e w' => ∃ v, e = .returned v ∧ v = .bool r ∧ St [] W w' [] := by
 subst aV
 unfold slices_Contains_int64 at hm
 refine Calls.enter (N := 9) Try.func151 rfl rfl rfl (fun a hf => ?_)
 have hs := St.start W
 obtain ⟨w, hw_⟩ : ∃ w, w = W := ⟨W, rfl⟩
 clear hw_ w
 refine wpL_seq <| wpL_region ?_
 refine sY hf hs rfl rfl rfl (Y_assign rfl rfl) ?_; clear hf; intro a hf
 refine wpO_nil <| wpL_seq <| wpL_region ?_
 refine sY hf hs rfl rfl rfl (Y_move rfl rfl) ?_; clear hf; intro a hf
 refine sY hf hs rfl rfl rfl (Y_move rfl rfl) ?_; clear hf; intro a hf
 obtain ⟨r1, hc2, hm⟩ := bind_some hm
 refine sCall hf rfl rfl rfl rfl (cap := []) rfl rfl en145 (slices_Index_int64_ok F aE au aE.length aA rfl bU _ _ hc2 (aS.at hs)) ?_; clear hf
 rintro _ w ⟨rfl, hs1⟩ a hf
 have hs : St [] W w [] := hs.ext hs1.below
 clear hs1
 refine sY hf hs rfl rfl rfl (Y_geq rfl rfl rfl) ?_; clear hf; intro a hf
 refine sY hf hs rfl rfl rfl (Y_assign rfl rfl) ?_; clear hf; intro a hf
 refine wpO_nil ?_
 obtain rfl := Option.some.inj hm
 refine wpL_ret (ret_tmp rfl hf rfl ?_)
 exact ⟨_, rfl, rfl, hs⟩

set_option maxRecDepth 100000 in
theorem impl_RelabelGraph_c1_ok (F : Nat) (bp : Int) (b_z0 : Nat) (z0 : List Int) (A_z0_1 : Option Addr) (n_z0_1 c_z0_1 : Nat) (hn_z0_1 : n_z0_1 = z0.length) (r : Int) (W : World) (hm : impl_RelabelGraph_c1 F bp z0 = some r) (h_z0_1 : Rd W A_z0_1 (ints z0)) (h_z0 : PB W b_z0 23 [.slice A_z0_1 n_z0_1 c_z0_1]) :
  Calls Try.prog 152 [.int .i64 bp, .pointer (some ⟨b_z0, 0, none⟩)].toArray W fun e w' => ∃ v, e = .returned v ∧ v = .int .i64 r ∧ St [] W w' [] := by
 subst hn_z0_1
 unfold impl_RelabelGraph_c1 at hm
 refine Calls.enter (N := 8) Try.func152 rfl rfl rfl (fun a hf => ?_)
 have hs := St.start W
 obtain ⟨w, hw_⟩ : ∃ w, w = W := ⟨W, rfl⟩
 clear hw_ w
 refine wpL_seq <| wpL_region ?_
 refine sY hf hs rfl rfl rfl (Y_assign rfl rfl) ?_; clear hf; intro a hf
 refine wpO_nil <| wpL_seq <| wpL_region ?_
 refine sY hf hs rfl rfl rfl (Y_load_pb rfl rfl h_z0 rfl ag23) ?_; clear hf; intro a hf
 refine sY hf hs rfl rfl rfl (Y_move rfl rfl) ?_; clear hf; intro a hf
 obtain ⟨q1, hi2, hm⟩ := bind_some hm
 obtain ⟨hi2a, hi2b, hi2q⟩ := idx_some hi2
 refine sY hf hs rfl rfl rfl (Y_index rfl rfl rfl el23 ti2 (Rd.isAt (h_z0_1.at hs) (at1 (ints_at hi2q))) hi2a hi2b) ?_; clear hf; intro a hf
 refine sY hf hs rfl rfl rfl (Y_load_rd rfl rfl (fun w hs => h_z0_1.at hs) (at1 (ints_at hi2q)) ag2) ?_; clear hf; intro a hf
 refine sY hf hs rfl rfl rfl (Y_assign rfl rfl) ?_; clear hf; intro a hf
 refine wpO_nil ?_
 obtain rfl := Option.some.inj hm
 refine wpL_ret (ret_tmp rfl hf rfl ?_)
 exact ⟨_, rfl, rfl, hs⟩

set_option maxRecDepth 100000 in
theorem impl_mappedGraph_ok (F : Nat) (ab : GEventGraph) (ac : Option Addr) (ap ad : Nat) (ax : ap = ab.Places.length) (aj : Int) (bL : Int → Option Int) (bx : FuncId) (bk : List Value) (r : GEventGraph) (W : World) (hm : impl_mappedGraph F ab aj bL = some r) (aq : Rd W ac ((recs GPlace.cells) ab.Places)) (ce : ∀ (x0 : Int) (r : Int) (w : World), bL x0 = some r → Below W.heap.size W w → Calls Try.prog bx (([.int .i64 x0] : List Value) ++ bk).toArray w fun e w' => ∃ v, e = .returned v ∧ v = .int .i64 r ∧ St [] w w' []) (cf : En Try.prog bx) :
  Calls Try.prog 135 [.agg #[.int .i64 ab.Events, .slice ac ap ad], .int .i64 aj, .func (.func bx) #[] bk.toArray].toArray W fun e w' => ∃ v, e = .returned v ∧ ∃ A126, ∃ n127, ∃ c128, v = .agg #[.int .i64 r.Events, .slice A126 n127 c128] ∧ n127 = r.Places.length ∧ St [] W w' [.row A126 n127 c128 127 4 ((recs GPlace.cells) r.Places)] := by
 subst ax
 unfold impl_mappedGraph at hm
 refine Calls.enter (N := 39) Try.func135 rfl rfl rfl (fun a hf => ?_)
 have hs := St.start W
 obtain ⟨w, hw_⟩ : ∃ w, w = W := ⟨W, rfl⟩
 clear hw_ w
 refine wpL_seq <| wpL_region ?_
 refine sBox hf hs rfl rfl rfl rfl rfl (cs := [.int .i64 ab.Events, .slice ac ab.Places.length ad]) rfl ?_; clear hf hs; intro a w b1 hs hf
 have hs : St [] W w [.blk b1 59 [.int .i64 ab.Events, .slice ac ab.Places.length ad]] := hs
 refine sAlloc hf hs rfl rfl rfl rfl ti59 ?_; clear hf hs; intro a w b2 hs hf
 have hs : St [] W w [.blk b1 59 [.int .i64 ab.Events, .slice ac ab.Places.length ad], .blk b2 59 [.int .i64 0, .slice none 0 0]] := hs
 refine wpO_nil <| wpL_seq <| wpL_region ?_
 refine sY hf hs rfl rfl rfl (Y_move rfl rfl) ?_; clear hf; intro a hf
 refine sY hf hs rfl rfl rfl (Y_build (parts := [(0, .tmp 10)]) (vs := [.int .i64 aj]) rfl rfl (run_build (parts := [(0, .int .i64 aj)]) (cells := [.int .i64 aj, .slice none 0 0]) (places := #[(0, 1), (1, 1)]) ti59 Try.underlying59 (fun w => by simp [go_sem]) rfl)) ?_; clear hf; intro a hf
 refine sAlloc hf hs rfl rfl rfl rfl ti59 ?_; clear hf hs; intro a w b3 hs hf
 have hs : St [] W w [.blk b1 59 [.int .i64 ab.Events, .slice ac ab.Places.length ad], .blk b2 59 [.int .i64 0, .slice none 0 0], .blk b3 59 [.int .i64 0, .slice none 0 0]] := hs
 refine sStore (i := 2) (us := [.int .i64 aj, .slice none 0 0]) hf hs rfl rfl rfl rfl rfl rfl ti59 rfl rfl rfl (Nat.le_of_ble_eq_true rfl) rfl ?_; clear hs; intro w hs
 have hs : St [] W w [.blk b1 59 [.int .i64 ab.Events, .slice ac ab.Places.length ad], .blk b2 59 [.int .i64 0, .slice none 0 0], .blk b3 59 [.int .i64 aj, .slice none 0 0]] := hs
 refine wpO_nil <| wpL_seq <| wpL_seq <| wpL_region ?_
 refine sY hf hs rfl rfl rfl (Y_fieldAddr rfl rfl fo59_1) ?_; clear hf; intro a hf
 refine sY hf hs rfl rfl rfl (Y_load_blk rfl rfl (i := 0) rfl rfl ag57) ?_; clear hf; intro a hf
 refine sY hf hs rfl rfl rfl (Y_lenH rfl rfl el57 rfl) ?_; clear hf; intro a hf
 refine sY hf hs rfl rfl rfl (Y_move rfl rfl) ?_; clear hf; intro a hf
 refine wpO_nil ?_
 obtain ⟨r97, hl98, hm⟩ := bind_some hm
 have hs : St [] W _ [.blk b1 59 [.int .i64 ab.Events, .slice ac ab.Places.length ad], .blk b2 59 [.int .i64 0, .slice none 0 0], .blk b3 59 [.int .i64 aj, .slice none 0 0], .row none 0 0 127 4 ((recs GPlace.cells) ([] : List GPlace))] := hs.addNil 127 4
 refine wpL_block (fun a w => ∃ xs92 : List GPlace, ∃ A93, ∃ n94, ∃ c95, xs92 = r97 ∧ n94 = xs92.length ∧ Fr a 39 [(6, .pointer (some ⟨b2, 0, none⟩)), (7, .pointer (some ⟨b3, 0, none⟩))] ∧ St [] W w [.blk b2 59 [.int .i64 0, .slice none 0 0], .blk b3 59 [.int .i64 aj, .slice A93 n94 c95], .row A93 n94 c95 127 4 ((recs GPlace.cells) xs92)]) ?_ ?_
 ·refine wpL_loop (fun n a w => ∃ xs62 : List GPlace, ∃ x67 : Int, ∃ A63, ∃ n64, ∃ c65, impl_mappedGraph_L1 F ab bL n xs62 x67 = some r97 ∧ n64 = xs62.length ∧ Fr a 39 [(2, .func (.func bx) #[] bk.toArray), (6, .pointer (some ⟨b2, 0, none⟩)), (7, .pointer (some ⟨b3, 0, none⟩)), (13, .slice ac ab.Places.length ad), (14, .int .i64 (ab.Places.length : Int)), (15, .int .i64 x67)] ∧ St [] W w [.blk b2 59 [.int .i64 0, .slice none 0 0], .blk b3 59 [.int .i64 aj, .slice A63 n64 c65], .row A63 n64 c65 127 4 ((recs GPlace.cells) xs62)]) F ?_ ?_ ?_
  ·exact ⟨[], 0, none, 0, 0, hl98, rfl, (FrD.pick (FrD.pick (FrD.pick (FrD.pick (FrD.pick (FrD.pick hf.none hf rfl) hf rfl) hf rfl) hf rfl) hf rfl) hf rfl), hs.sel [1, 2, 3] (by decide)⟩
  ·rintro a w ⟨xs62, x67, A63, n64, c65, h0_, -, -, -⟩; simp [impl_mappedGraph_L1] at h0_
  ·rintro n100 a w ⟨xs62, x67, A63, n64, c65, hm99, hn66, hf, hs⟩
   rw [impl_mappedGraph_L1] at hm99
   refine wpL_seq <| wpL_region ?_
   refine sY hf hs rfl rfl rfl (Y_lss rfl rfl rfl) ?_; clear hf; intro a hf
   refine wpO_nil <| wpL_seq ?_
   refine wpL_cond hf rfl (fun hb101 => ?_) (fun hb101 => ?_)
   ·have hm99 := bif_t hm99 hb101
    refine wpL_skip <| wpL_seq <| wpL_block0 <| wpL_seq <| wpL_region ?_
    obtain ⟨q102, hi103, hm99⟩ := bind_some hm99
    obtain ⟨hi103a, hi103b, hi103q⟩ := idx_some hi103
    refine sY hf hs rfl rfl rfl (Y_index rfl rfl rfl el57 ti127 (Rd.isAt (aq.at hs) (recs_at (s := 4) GPlace.len hi103q (j := 0) rfl)) hi103a hi103b) ?_; clear hf; intro a hf
    refine sY hf hs rfl rfl rfl (Y_load_rdS rfl rfl (us := [.int .i64 q102.From, .int .i64 q102.To, .int .i64 q102.Delay, .int .i64 q102.Tokens]) (fun w hs => aq.at hs) (fun j u hj => recs_at (s := 4) GPlace.len hi103q hj) (Nat.succ_pos _) ag127 ti127 rfl) ?_; clear hf; intro a hf
    refine sAlloc hf hs rfl rfl rfl rfl ti127 ?_; clear hf hs; intro a w b104 hs hf
    have hs : St [] W w [.blk b2 59 [.int .i64 0, .slice none 0 0], .blk b3 59 [.int .i64 aj, .slice A63 n64 c65], .row A63 n64 c65 127 4 ((recs GPlace.cells) xs62), .blk b104 127 [.int .i64 0, .int .i64 0, .int .i64 0, .int .i64 0]] := hs
    refine sStore (i := 3) (us := [.int .i64 q102.From, .int .i64 q102.To, .int .i64 q102.Delay, .int .i64 q102.Tokens]) hf hs rfl rfl rfl rfl rfl rfl ti127 rfl rfl rfl (Nat.le_of_ble_eq_true rfl) rfl ?_; clear hs; intro w hs
    have hs : St [] W w [.blk b2 59 [.int .i64 0, .slice none 0 0], .blk b3 59 [.int .i64 aj, .slice A63 n64 c65], .row A63 n64 c65 127 4 ((recs GPlace.cells) xs62), .blk b104 127 [.int .i64 q102.From, .int .i64 q102.To, .int .i64 q102.Delay, .int .i64 q102.Tokens]] := hs
    refine wpO_nil ?_
    refine wpL_drawM [.blk b2 59 [.int .i64 0, .slice none 0 0], .blk b3 59 [.int .i64 aj, .slice A63 n64 c65], .row A63 n64 c65 127 4 ((recs GPlace.cells) xs62), .blk b104 127 [.int .i64 q102.From, .int .i64 q102.To, .int .i64 q102.Delay, .int .i64 q102.Tokens]] [16, 18] (by kernel_rfl) hs ?_; clear hs; intro w hs
    have hs0 : St [] W w [.blk b2 59 [.int .i64 0, .slice none 0 0], .blk b3 59 [.int .i64 aj, .slice A63 n64 c65], .row A63 n64 c65 127 4 ((recs GPlace.cells) xs62), .blk b104 127 [.int .i64 q102.From, .int .i64 q102.To, .int .i64 q102.Delay, .int .i64 q102.Tokens]] := hs
    refine mYp (i := 0) rfl (by kernel_rfl) (by kernel_rfl) hf rfl rfl rfl (fun _ => Y_fieldAddr rfl rfl fo59_1) ?_; clear hf; intro a hf
    refine mY (i := 1) [[], []] rfl (by kernel_rfl) (by kernel_rfl) hf hs0 rfl rfl rfl (Y_load_blk rfl rfl (i := 1) rfl rfl ag57) ?_; clear hf; intro a hf
    refine mYp (i := 2) rfl (by kernel_rfl) (by kernel_rfl) hf rfl rfl rfl (fun _ => Y_move rfl rfl) ?_; clear hf; intro a hf
    refine mYp (i := 3) rfl (by kernel_rfl) (by kernel_rfl) hf rfl rfl rfl (fun _ => Y_fieldAddr rfl rfl fo127_0) ?_; clear hf; intro a hf
    refine mY (i := 4) [[5, 9], []] rfl (by kernel_rfl) (by kernel_rfl) hf hs0 rfl rfl rfl (Y_load_blk rfl rfl (i := 3) rfl rfl ag2) ?_; clear hf; intro a hf
    refine mYp (i := 6) rfl (by kernel_rfl) (by kernel_rfl) hf rfl rfl rfl (fun _ => Y_move rfl rfl) ?_; clear hf; intro a hf
    refine mYp (i := 7) rfl (by kernel_rfl) (by kernel_rfl) hf rfl rfl rfl (fun _ => Y_fieldAddr rfl rfl fo127_1) ?_; clear hf; intro a hf
    refine mY (i := 8) [[9], []] rfl (by kernel_rfl) (by kernel_rfl) hf hs0 rfl rfl rfl (Y_load_blk rfl rfl (i := 3) rfl rfl ag2) ?_; clear hf; intro a hf
    refine mYp (i := 10) rfl (by kernel_rfl) (by kernel_rfl) hf rfl rfl rfl (fun _ => Y_fieldAddr rfl rfl fo127_2) ?_; clear hf; intro a hf
    refine mY (i := 11) [[14, 15], []] rfl (by kernel_rfl) (by kernel_rfl) hf hs0 rfl rfl rfl (Y_load_blk rfl rfl (i := 3) rfl rfl ag2) ?_; clear hf; intro a hf
    refine mYp (i := 12) rfl (by kernel_rfl) (by kernel_rfl) hf rfl rfl rfl (fun _ => Y_fieldAddr rfl rfl fo127_3) ?_; clear hf; intro a hf
    refine mY (i := 13) [[14, 15], []] rfl (by kernel_rfl) (by kernel_rfl) hf hs0 rfl rfl rfl (Y_load_blk rfl rfl (i := 3) rfl rfl ag2) ?_; clear hf; intro a hf
    refine mRun (i := 5) rfl (by kernel_rfl) ?_
    obtain ⟨r115, hc116, hm99⟩ := bind_some hm99
    refine sCall hf rfl rfl rfl rfl (cap := bk) rfl rfl cf (ce q102.From _ _ hc116 hs.below) ?_; clear hf; rintro _ w ⟨rfl, hs1⟩ a hf; have hs := hs.ext hs1.below; clear hs1
    have hs0 : St [] W w [.blk b2 59 [.int .i64 0, .slice none 0 0], .blk b3 59 [.int .i64 aj, .slice A63 n64 c65], .row A63 n64 c65 127 4 ((recs GPlace.cells) xs62), .blk b104 127 [.int .i64 q102.From, .int .i64 q102.To, .int .i64 q102.Delay, .int .i64 q102.Tokens]] := hs
    refine wpO_nil ⟨Or.inr (fun _ => hs0), ?_⟩
    refine mRun (i := 9) rfl (by kernel_rfl) ?_
    obtain ⟨r117, hc118, hm99⟩ := bind_some hm99
    refine sCall hf rfl rfl rfl rfl (cap := bk) rfl rfl cf (ce q102.To _ _ hc118 hs.below) ?_; clear hf; rintro _ w ⟨rfl, hs1⟩ a hf; have hs := hs.ext hs1.below; clear hs1
    have hs0 : St [] W w [.blk b2 59 [.int .i64 0, .slice none 0 0], .blk b3 59 [.int .i64 aj, .slice A63 n64 c65], .row A63 n64 c65 127 4 ((recs GPlace.cells) xs62), .blk b104 127 [.int .i64 q102.From, .int .i64 q102.To, .int .i64 q102.Delay, .int .i64 q102.Tokens]] := hs
    refine wpO_nil ⟨Or.inr (fun _ => hs0), ?_⟩
    refine mYp (i := 14) rfl (by kernel_rfl) (by kernel_rfl) hf rfl rfl rfl (fun _ => Y_build (parts := [(0, .tmp 24), (1, .tmp 28), (2, .tmp 30), (3, .tmp 32)]) (vs := [.int .i64 r115, .int .i64 r117, .int .i64 q102.Delay, .int .i64 q102.Tokens]) rfl rfl (run_build (parts := [(0, .int .i64 r115), (1, .int .i64 r117), (2, .int .i64 q102.Delay), (3, .int .i64 q102.Tokens)]) (cells := [.int .i64 r115, .int .i64 r117, .int .i64 q102.Delay, .int .i64 q102.Tokens]) (places := #[(0, 1), (1, 1), (2, 1), (3, 1)]) ti127 Try.underlying127 (fun w => by simp [go_sem]) rfl)) ?_; clear hf; intro a hf
    refine mRun (i := 15) rfl (by kernel_rfl) ?_
    refine sBuildSlice (parts := [(0, .tmp 33)]) (vs := [.agg #[.int .i64 r115, .int .i64 r117, .int .i64 q102.Delay, .int .i64 q102.Tokens]]) (cells := [.int .i64 r115, .int .i64 r117, .int .i64 q102.Delay, .int .i64 q102.Tokens]) hf hs rfl rfl rfl rfl rfl el57 ti127 rfl rfl rfl rfl ?_; clear hf hs; intro a w A119 hs hA120 hf
    have hs : St [] W w [.blk b2 59 [.int .i64 0, .slice none 0 0], .blk b3 59 [.int .i64 aj, .slice A63 n64 c65], .row A63 n64 c65 127 4 ((recs GPlace.cells) xs62), .blk b104 127 [.int .i64 q102.From, .int .i64 q102.To, .int .i64 q102.Delay, .int .i64 q102.Tokens], .row A119 1 1 127 4 ((recs GPlace.cells) ([(GPlace.mk r115 r117 q102.Delay q102.Tokens)]))] := hs
    have hs0 : St [] W w [.blk b2 59 [.int .i64 0, .slice none 0 0], .blk b3 59 [.int .i64 aj, .slice A63 n64 c65], .row A63 n64 c65 127 4 ((recs GPlace.cells) xs62), .blk b104 127 [.int .i64 q102.From, .int .i64 q102.To, .int .i64 q102.Delay, .int .i64 q102.Tokens]] := hs.sel [0, 1, 2, 3] (by decide)
    refine wpO_nil ⟨Or.inr (fun _ => hs0), ?_⟩
    refine mRun (i := 16) rfl (by kernel_rfl) ?_
    obtain ⟨xs123, ha124, hm99⟩ := bind_some hm99
    refine sAppendL (i := 2) (xs := xs62) (ys := [(GPlace.mk r115 r117 q102.Delay q102.Tokens)]) (enc := (recs GPlace.cells)) hf hs rfl rfl rfl rfl rfl rfl hn66 rfl rfl ha124 el57 ti127 rfl rfl rfl (hs.rd (i := 4) rfl) (Nat.succ_pos _) (recs_length GPlace.len) (recs_append GPlace.cells) (recs_one GPlace.one) ?_; clear hf hs; intro a w A121 c122 hs hf
    have hs : St [] W w [.blk b2 59 [.int .i64 0, .slice none 0 0], .blk b3 59 [.int .i64 aj, .slice A63 n64 c65], .row A121 xs123.length c122 127 4 ((recs GPlace.cells) xs123), .blk b104 127 [.int .i64 q102.From, .int .i64 q102.To, .int .i64 q102.Delay, .int .i64 q102.Tokens], .row A119 1 1 127 4 ((recs GPlace.cells) ([(GPlace.mk r115 r117 q102.Delay q102.Tokens)]))] := hs
    refine wpO_nil ⟨Or.inl (by decide), ?_⟩
    refine mYp (i := 17) rfl (by kernel_rfl) (by kernel_rfl) hf rfl rfl rfl (fun _ => Y_fieldAddr rfl rfl fo59_1) ?_; clear hf; intro a hf
    refine mRun (i := 18) rfl (by kernel_rfl) ?_
    refine sStore (i := 1) (us := [.slice A121 xs123.length c122]) hf hs rfl rfl rfl rfl rfl rfl ti57 rfl rfl rfl (Nat.le_of_ble_eq_true rfl) rfl ?_; clear hs; intro w hs
    have hs : St [] W w [.blk b2 59 [.int .i64 0, .slice none 0 0], .blk b3 59 [.int .i64 aj, .slice A121 xs123.length c122], .row A121 xs123.length c122 127 4 ((recs GPlace.cells) xs123), .blk b104 127 [.int .i64 q102.From, .int .i64 q102.To, .int .i64 q102.Delay, .int .i64 q102.Tokens], .row A119 1 1 127 4 ((recs GPlace.cells) ([(GPlace.mk r115 r117 q102.Delay q102.Tokens)]))] := hs
    refine wpO_nil ⟨Or.inl (by decide), ?_⟩
    refine mDone (by kernel_rfl) ?_
    clear hs0
    refine wpL_nil (Qb_normal ?_)
    refine wpL_region ?_
    refine sY hf hs rfl rfl rfl (Y_add rfl rfl rfl) ?_; clear hf; intro a hf
    refine sY hf hs rfl rfl rfl (Y_move rfl rfl) ?_; clear hf; intro a hf
    refine wpO_nil ?_
    refine wpL_nil (Ql_normal ?_)
    exact ⟨xs123, (IntKind.i64.wrap (x67 + 1)), A121, xs123.length, c122, hm99, rfl, (FrD.pick (FrD.pick (FrD.pick (FrD.pick (FrD.pick (FrD.pick hf.none hf rfl) hf rfl) hf rfl) hf rfl) hf rfl) hf rfl), hs.sel [0, 1, 2] (by decide)⟩
   ·have hm99 := bif_f hm99 hb101
    refine wpL_exit (Ql_exit (Qb_exit ?_))
    exact ⟨xs62, A63, n64, c65, Option.some.inj hm99, hn66, (FrD.pick (FrD.pick hf.none hf rfl) hf rfl), hs⟩
 ·rintro a w ⟨xs92, A93, n94, c95, hr_, hn96, hf, hs⟩
  subst hr_
  try dsimp only at hm
  refine wpL_seq <| wpL_region ?_
  refine sY hf hs rfl rfl rfl (Y_load_blkS rfl rfl (i := 1) rfl ag59 ti59 rfl) ?_; clear hf; intro a hf
  refine sStore (i := 0) (us := [.int .i64 aj, .slice A93 n94 c95]) hf hs rfl rfl rfl rfl rfl rfl ti59 rfl rfl rfl (Nat.le_of_ble_eq_true rfl) rfl ?_; clear hs; intro w hs
  have hs : St [] W w [.blk b2 59 [.int .i64 aj, .slice A93 n94 c95], .blk b3 59 [.int .i64 aj, .slice A93 n94 c95], .row A93 n94 c95 127 4 ((recs GPlace.cells) xs92)] := hs
  refine wpO_nil ?_
  obtain rfl := Option.some.inj hm
  refine wpL_ret (ret_cell rfl hf rfl hs (i := 0) rfl ag59 ti59 rfl ?_)
  exact ⟨_, rfl, A93, n94, c95, rfl, hn96, hs.sel [2] (by decide)⟩

set_option maxRecDepth 100000 in
theorem impl_RelabelGraph_ok (F : Nat) (ab : GEventGraph) (ac : Option Addr) (ap ad : Nat) (ax : ap = ab.Places.length) (aD : List Int) (aI : Option Addr) (bl aJ : Nat) (bV : bl = aD.length) (r : GEventGraph × Int) (W : World) (hm : impl_RelabelGraph F ab aD = some r) (aq : Rd W ac ((recs GPlace.cells) ab.Places)) (bg : Rd W aI (ints aD)) (hcap_h_p1_p_1 : bl ≤ aJ) :
  Calls Try.prog 65 [.agg #[.int .i64 ab.Events, .slice ac ap ad], .slice aI bl aJ].toArray W fun e w' => ∃ v, e = .returned v ∧ ∃ A64, ∃ n65, ∃ c66, v = .tuple #[.agg #[.int .i64 r.1.Events, .slice A64 n65 c66], .int .i64 r.2] ∧ n65 = r.1.Places.length ∧ St [] W w' [.row A64 n65 c66 127 4 ((recs GPlace.cells) r.1.Places)] := by
 subst ax
 subst bV
 unfold impl_RelabelGraph at hm
 refine Calls.enter (N := 45) Try.func65 rfl rfl rfl (fun a hf => ?_)
 have hs := St.start W
 obtain ⟨w, hw_⟩ : ∃ w, w = W := ⟨W, rfl⟩
 clear hw_ w
 refine wpL_seq <| wpL_region ?_
 refine sBox hf hs rfl rfl rfl rfl rfl (cs := [.int .i64 ab.Events, .slice ac ab.Places.length ad]) rfl ?_; clear hf hs; intro a w b1 hs hf
 have hs : St [] W w [.blk b1 59 [.int .i64 ab.Events, .slice ac ab.Places.length ad]] := hs
 refine sBox hf hs rfl rfl rfl rfl rfl (cs := [.slice aI aD.length aJ]) rfl ?_; clear hf hs; intro a w b2 hs hf
 have hs : St [] W w [.blk b1 59 [.int .i64 ab.Events, .slice ac ab.Places.length ad], .blk b2 23 [.slice aI aD.length aJ]] := hs
 refine sAlloc hf hs rfl rfl rfl rfl ti59 ?_; clear hf hs; intro a w b3 hs hf
 have hs : St [] W w [.blk b1 59 [.int .i64 ab.Events, .slice ac ab.Places.length ad], .blk b2 23 [.slice aI aD.length aJ], .blk b3 59 [.int .i64 0, .slice none 0 0]] := hs
 refine sY hf hs rfl rfl rfl (Y_assign rfl rfl) ?_; clear hf; intro a hf
 refine wpO_nil <| wpL_seq <| wpL_seq <| wpL_region ?_
 refine sY hf hs rfl rfl rfl (Y_load_blkS rfl rfl (i := 0) rfl ag59 ti59 rfl) ?_; clear hf; intro a hf
 obtain ⟨r4, hc5, hm⟩ := bind_some hm
 refine sCall hf rfl rfl rfl rfl (cap := []) rfl rfl en51 (impl_IsEventGraph_ok F ab ac ab.Places.length ad rfl _ _ hc5 (aq.at hs)) ?_; clear hf
 rintro _ w ⟨rfl, hs1⟩ a hf
 have hs : St [] W w [.blk b1 59 [.int .i64 ab.Events, .slice ac ab.Places.length ad], .blk b2 23 [.slice aI aD.length aJ], .blk b3 59 [.int .i64 0, .slice none 0 0]] := hs.ext hs1.below
 clear hs1
 refine sY hf hs rfl rfl rfl (Y_not rfl rfl) ?_; clear hf; intro a hf
 refine wpO_nil ?_
 refine wpL_cond hf rfl (fun hb6 => ?_) (fun hb6 => ?_)
 ·have hm := bif_t hm hb6
  refine wpL_seq <| wpL_region ?_
  refine sY hf hs rfl rfl rfl (Y_build (parts := []) (vs := []) rfl rfl (run_build (parts := []) (cells := [.int .i64 0, .slice none 0 0]) (places := #[(0, 1), (1, 1)]) ti59 Try.underlying59 (fun w => by simp [go_sem]) rfl)) ?_; clear hf; intro a hf
  refine sStore (i := 2) (us := [.int .i64 0, .slice none 0 0]) hf hs rfl rfl rfl rfl rfl rfl ti59 rfl rfl rfl (Nat.le_of_ble_eq_true rfl) rfl ?_; clear hs; intro w hs
  have hs : St [] W w [.blk b1 59 [.int .i64 ab.Events, .slice ac ab.Places.length ad], .blk b2 23 [.slice aI aD.length aJ], .blk b3 59 [.int .i64 0, .slice none 0 0]] := hs
  refine sY hf hs rfl rfl rfl (Y_assign rfl rfl) ?_; clear hf; intro a hf
  refine wpO_nil ?_
  have hs : St [] W _ [.blk b1 59 [.int .i64 ab.Events, .slice ac ab.Places.length ad], .blk b2 23 [.slice aI aD.length aJ], .blk b3 59 [.int .i64 0, .slice none 0 0], .row none 0 0 127 4 ((recs GPlace.cells) ([] : List GPlace))] := hs.addNil 127 4
  obtain rfl := Option.some.inj hm
  refine wpL_ret (ret_cell_tmp rfl hf rfl rfl hs (i := 2) rfl ag59 ti59 rfl ?_)
  exact ⟨_, rfl, none, 0, 0, rfl, rfl, hs.sel [3] (by decide)⟩
 ·have hm := bif_f hm hb6
  refine wpL_skip <| wpL_seq <| wpL_seq ?_
  obtain ⟨r12, hj13, hm⟩ := bind_some hm
  refine wpL_cut (fun a w => ∃ b11 : Bool, b11 = r12 ∧ Fr a 45 [(2, .pointer (some ⟨b1, 0, none⟩)), (3, .pointer (some ⟨b2, 0, none⟩)), (4, .pointer (some ⟨b3, 0, none⟩)), (24, .bool b11)] ∧ St [] W w [.blk b1 59 [.int .i64 ab.Events, .slice ac ab.Places.length ad], .blk b2 23 [.slice aI aD.length aJ], .blk b3 59 [.int .i64 0, .slice none 0 0]]) ?_ ?_
  ·refine wpL_region ?_
   refine sY hf hs rfl rfl rfl (Y_load_blk rfl rfl (i := 1) rfl rfl ag23) ?_; clear hf; intro a hf
   refine sY hf hs rfl rfl rfl (Y_lenH rfl rfl el23 rfl) ?_; clear hf; intro a hf
   refine sY hf hs rfl rfl rfl (Y_fieldAddr rfl rfl fo59_0) ?_; clear hf; intro a hf
   refine sY hf hs rfl rfl rfl (Y_load_blk rfl rfl (i := 0) rfl rfl ag2) ?_; clear hf; intro a hf
   refine sY hf hs rfl rfl rfl (Y_neq rfl rfl rfl) ?_; clear hf; intro a hf
   refine sY hf hs rfl rfl rfl (Y_move rfl rfl) ?_; clear hf; intro a hf
   refine bsplit ((aD.length : Int) != ab.Events) (fun hb14 => ?_) (fun hb14 => ?_)
   ·have hj13 := bif_t hj13 hb14
    refine sNo hf rfl rfl rfl (congrArg (fun b => some (Value.bool b)) hb14) rfl rfl rfl ?_; clear hf; intro a hf
    refine sNo hf rfl rfl rfl (congrArg (fun b => some (Value.bool b)) hb14) rfl rfl rfl ?_; clear hf; intro a hf
    refine sNo hf rfl rfl rfl (congrArg (fun b => some (Value.bool b)) hb14) rfl rfl rfl ?_; clear hf; intro a hf
    refine sNo hf rfl rfl rfl (congrArg (fun b => some (Value.bool b)) hb14) rfl rfl rfl ?_; clear hf; intro a hf
    refine sNo hf rfl rfl rfl (congrArg (fun b => some (Value.bool b)) hb14) rfl rfl rfl ?_; clear hf; intro a hf
    refine sNo hf rfl rfl rfl (congrArg (fun b => some (Value.bool b)) hb14) rfl rfl rfl ?_; clear hf; intro a hf
    refine sY hf hs rfl rfl rfl (Y_pickT rfl (congrArg (fun b => some (Value.bool b)) hb14) rfl) ?_; clear hf; intro a hf
    refine wpO_nil ?_
    refine wpL_nil (then_normal ?_)
    exact ⟨true, Option.some.inj hj13, (FrD.pick (FrD.pick (FrD.pick (FrD.pick hf.none hf rfl) hf rfl) hf rfl) hf rfl), hs⟩
   ·have hj13 := bif_f hj13 hb14
    refine sYg hf hs rfl rfl rfl (congrArg (fun b => some (Value.bool b)) hb14) rfl rfl rfl (Y_load_blk rfl rfl (i := 1) rfl rfl ag23) ?_; clear hf; intro a hf
    refine sYg hf hs rfl rfl rfl (congrArg (fun b => some (Value.bool b)) hb14) rfl rfl rfl (Y_fieldAddr rfl rfl fo59_0) ?_; clear hf; intro a hf
    refine sYg hf hs rfl rfl rfl (congrArg (fun b => some (Value.bool b)) hb14) rfl rfl rfl (Y_load_blk rfl rfl (i := 0) rfl rfl ag2) ?_; clear hf; intro a hf
    refine sYg hf hs rfl rfl rfl (congrArg (fun b => some (Value.bool b)) hb14) rfl rfl rfl (Y_sub rfl rfl rfl) ?_; clear hf; intro a hf
    obtain ⟨r15, hc16, hj13⟩ := bind_some hj13
    refine sCallg hf rfl rfl rfl (congrArg (fun b => some (Value.bool b)) hb14) rfl rfl rfl rfl (cap := []) rfl rfl en121 (impl_allWithin_ok F aD aI aD.length aJ rfl 0 (IntKind.i64.wrap (ab.Events - 1)) _ _ hc16 (bg.at hs)) ?_; clear hf
    rintro _ w ⟨rfl, hs1⟩ a hf
    have hs : St [] W w [.blk b1 59 [.int .i64 ab.Events, .slice ac ab.Places.length ad], .blk b2 23 [.slice aI aD.length aJ], .blk b3 59 [.int .i64 0, .slice none 0 0]] := hs.ext hs1.below
    clear hs1
    refine sYg hf hs rfl rfl rfl (congrArg (fun b => some (Value.bool b)) hb14) rfl rfl rfl (Y_not rfl rfl) ?_; clear hf; intro a hf
    refine sY hf hs rfl rfl rfl (Y_pickF rfl (congrArg (fun b => some (Value.bool b)) hb14) rfl) ?_; clear hf; intro a hf
    refine wpO_nil ?_
    refine wpL_nil (then_normal ?_)
    exact ⟨(!r15), Option.some.inj hj13, (FrD.pick (FrD.pick (FrD.pick (FrD.pick hf.none hf rfl) hf rfl) hf rfl) hf rfl), hs⟩
  ·rintro a w ⟨b11, hr_, hf, hs⟩
   subst hr_
   try dsimp only at hm
   refine wpL_cond hf rfl (fun hb17 => ?_) (fun hb17 => ?_)
   ·have hm := bif_t hm hb17
    refine wpL_seq <| wpL_region ?_
    refine sY hf hs rfl rfl rfl (Y_build (parts := []) (vs := []) rfl rfl (run_build (parts := []) (cells := [.int .i64 0, .slice none 0 0]) (places := #[(0, 1), (1, 1)]) ti59 Try.underlying59 (fun w => by simp [go_sem]) rfl)) ?_; clear hf; intro a hf
    refine sStore (i := 2) (us := [.int .i64 0, .slice none 0 0]) hf hs rfl rfl rfl rfl rfl rfl ti59 rfl rfl rfl (Nat.le_of_ble_eq_true rfl) rfl ?_; clear hs; intro w hs
    have hs : St [] W w [.blk b1 59 [.int .i64 ab.Events, .slice ac ab.Places.length ad], .blk b2 23 [.slice aI aD.length aJ], .blk b3 59 [.int .i64 0, .slice none 0 0]] := hs
    refine sY hf hs rfl rfl rfl (Y_assign rfl rfl) ?_; clear hf; intro a hf
    refine wpO_nil ?_
    have hs : St [] W _ [.blk b1 59 [.int .i64 ab.Events, .slice ac ab.Places.length ad], .blk b2 23 [.slice aI aD.length aJ], .blk b3 59 [.int .i64 0, .slice none 0 0], .row none 0 0 127 4 ((recs GPlace.cells) ([] : List GPlace))] := hs.addNil 127 4
    obtain rfl := Option.some.inj hm
    refine wpL_ret (ret_cell_tmp rfl hf rfl rfl hs (i := 2) rfl ag59 ti59 rfl ?_)
    exact ⟨_, rfl, none, 0, 0, rfl, rfl, hs.sel [3] (by decide)⟩
   ·have hm := bif_f hm hb17
    refine wpL_skip <| wpL_seq <| wpL_seq <| wpL_region ?_
    refine sY hf hs rfl rfl rfl (Y_load_blk rfl rfl (i := 1) rfl rfl ag23) ?_; clear hf; intro a hf
    refine sY hf hs rfl rfl rfl (Y_lenH rfl rfl el23 rfl) ?_; clear hf; intro a hf
    refine sY hf hs rfl rfl rfl (Y_move rfl rfl) ?_; clear hf; intro a hf
    refine wpO_nil ?_
    obtain ⟨r45, hl46, hm⟩ := bind_some hm
    refine wpL_block (fun a w => Sum.inr () = r45 ∧ Fr a 45 [(2, .pointer (some ⟨b1, 0, none⟩)), (3, .pointer (some ⟨b2, 0, none⟩)), (4, .pointer (some ⟨b3, 0, none⟩))] ∧ St [] W w [.blk b1 59 [.int .i64 ab.Events, .slice ac ab.Places.length ad], .blk b2 23 [.slice aI aD.length aJ], .blk b3 59 [.int .i64 0, .slice none 0 0]]) ?_ ?_
    ·refine wpL_loop (fun n a w => ∃ x36 : Int, impl_RelabelGraph_L1 F aD n x36 = some r45 ∧ Fr a 45 [(2, .pointer (some ⟨b1, 0, none⟩)), (3, .pointer (some ⟨b2, 0, none⟩)), (4, .pointer (some ⟨b3, 0, none⟩)), (26, .slice aI aD.length aJ), (27, .int .i64 (aD.length : Int)), (28, .int .i64 x36)] ∧ St [] W w [.blk b1 59 [.int .i64 ab.Events, .slice ac ab.Places.length ad], .blk b2 23 [.slice aI aD.length aJ], .blk b3 59 [.int .i64 0, .slice none 0 0]]) F ?_ ?_ ?_
     ·exact ⟨0, hl46, (FrD.pick (FrD.pick (FrD.pick (FrD.pick (FrD.pick (FrD.pick hf.none hf rfl) hf rfl) hf rfl) hf rfl) hf rfl) hf rfl), hs⟩
     ·rintro a w ⟨x36, h0_, -, -⟩; simp [impl_RelabelGraph_L1] at h0_
     ·rintro n48 a w ⟨x36, hm47, hf, hs⟩
      rw [impl_RelabelGraph_L1] at hm47
      refine wpL_seq <| wpL_region ?_
      refine sY hf hs rfl rfl rfl (Y_lss rfl rfl rfl) ?_; clear hf; intro a hf
      refine wpO_nil <| wpL_seq ?_
      refine wpL_cond hf rfl (fun hb49 => ?_) (fun hb49 => ?_)
      ·have hm47 := bif_t hm47 hb49
       refine wpL_skip <| wpL_seq <| wpL_block0 <| wpL_seq <| wpL_region ?_
       refine sY hf hs rfl rfl rfl (Y_move rfl rfl) ?_; clear hf; intro a hf
       obtain ⟨q50, hi51, hm47⟩ := bind_some hm47
       obtain ⟨hi51a, hi51b, hi51q⟩ := idx_some hi51
       refine sY hf hs rfl rfl rfl (Y_index rfl rfl rfl el23 ti2 (Rd.isAt (bg.at hs) (at1 (ints_at hi51q))) hi51a hi51b) ?_; clear hf; intro a hf
       refine sY hf hs rfl rfl rfl (Y_load_rd rfl rfl (fun w hs => bg.at hs) (at1 (ints_at hi51q)) ag2) ?_; clear hf; intro a hf
       refine sY hf hs rfl rfl rfl (Y_assign rfl rfl) ?_; clear hf; intro a hf
       refine sY hf hs rfl rfl rfl (Y_assign rfl rfl) ?_; clear hf; intro a hf
       refine wpO_nil <| wpL_seq <| wpL_region ?_
       refine sY hf hs rfl rfl rfl (Y_load_blk rfl rfl (i := 1) rfl rfl ag23) ?_; clear hf; intro a hf
       refine sY hf hs rfl rfl rfl (Y_move rfl rfl) ?_; clear hf; intro a hf
       obtain ⟨xs53, hk52, hm47⟩ := bind_some hm47
       refine sY hf hs rfl rfl rfl (Y_sliceH rfl rfl rfl (cutTo_some hk52).1 (leC rfl hcap_h_p1_p_1 hk52) el23 ti2) ?_; clear hf; intro a hf
       refine sY hf hs rfl rfl rfl (Y_move rfl rfl) ?_; clear hf; intro a hf
       obtain ⟨r54, hc55, hm47⟩ := bind_some hm47
       refine sCall hf rfl rfl rfl rfl (cap := []) rfl rfl en151 (slices_Contains_int64_ok F xs53 aI ((x36 : Int).toNat) aJ (pre_len hk52) q50 _ _ hc55 ((Rd.preInts bg hk52).at hs)) ?_; clear hf
       rintro _ w ⟨rfl, hs1⟩ a hf
       have hs : St [] W w [.blk b1 59 [.int .i64 ab.Events, .slice ac ab.Places.length ad], .blk b2 23 [.slice aI aD.length aJ], .blk b3 59 [.int .i64 0, .slice none 0 0]] := hs.ext hs1.below
       clear hs1
       refine wpO_nil ?_
       refine wpL_cond hf rfl (fun hb56 => ?_) (fun hb56 => ?_)
       ·have hm47 := bif_t hm47 hb56
        refine wpL_seq <| wpL_region ?_
        refine sY hf hs rfl rfl rfl (Y_build (parts := []) (vs := []) rfl rfl (run_build (parts := []) (cells := [.int .i64 0, .slice none 0 0]) (places := #[(0, 1), (1, 1)]) ti59 Try.underlying59 (fun w => by simp [go_sem]) rfl)) ?_; clear hf; intro a hf
        refine sStore (i := 2) (us := [.int .i64 0, .slice none 0 0]) hf hs rfl rfl rfl rfl rfl rfl ti59 rfl rfl rfl (Nat.le_of_ble_eq_true rfl) rfl ?_; clear hs; intro w hs
        have hs : St [] W w [.blk b1 59 [.int .i64 ab.Events, .slice ac ab.Places.length ad], .blk b2 23 [.slice aI aD.length aJ], .blk b3 59 [.int .i64 0, .slice none 0 0]] := hs
        refine sY hf hs rfl rfl rfl (Y_assign rfl rfl) ?_; clear hf; intro a hf
        refine wpO_nil ?_
        have hs : St [] W _ [.blk b1 59 [.int .i64 ab.Events, .slice ac ab.Places.length ad], .blk b2 23 [.slice aI aD.length aJ], .blk b3 59 [.int .i64 0, .slice none 0 0], .row none 0 0 127 4 ((recs GPlace.cells) ([] : List GPlace))] := hs.addNil 127 4
        obtain rfl := Option.some.inj hm47
        try dsimp only at hm
        obtain rfl := Option.some.inj hm
        refine wpL_ret (Qb_ret (Ql_ret (Qb_ret (ret_cell_tmp rfl hf rfl rfl hs (i := 2) rfl ag59 ti59 rfl ?_))))
        exact ⟨_, rfl, none, 0, 0, rfl, rfl, hs.sel [3] (by decide)⟩
       ·have hm47 := bif_f hm47 hb56
        refine wpL_skip ?_
        refine wpL_nil (Qb_normal ?_)
        refine wpL_region ?_
        refine sY hf hs rfl rfl rfl (Y_add rfl rfl rfl) ?_; clear hf; intro a hf
        refine sY hf hs rfl rfl rfl (Y_move rfl rfl) ?_; clear hf; intro a hf
        refine wpO_nil ?_
        refine wpL_nil (Ql_normal ?_)
        exact ⟨(IntKind.i64.wrap (x36 + 1)), hm47, (FrD.pick (FrD.pick (FrD.pick (FrD.pick (FrD.pick (FrD.pick hf.none hf rfl) hf rfl) hf rfl) hf rfl) hf rfl) hf rfl), hs⟩
      ·have hm47 := bif_f hm47 hb49
       refine wpL_exit (Ql_exit (Qb_exit ?_))
       exact ⟨Option.some.inj hm47, (FrD.pick (FrD.pick (FrD.pick hf.none hf rfl) hf rfl) hf rfl), hs⟩
    ·rintro a w ⟨hr_, hf, hs⟩
     subst hr_
     try dsimp only at hm
     refine wpL_seq <| wpL_region ?_
     refine sY hf hs rfl rfl rfl (Y_load_blkS rfl rfl (i := 0) rfl ag59 ti59 rfl) ?_; clear hf; intro a hf
     refine sY hf hs rfl rfl rfl (Y_fieldAddr rfl rfl fo59_0) ?_; clear hf; intro a hf
     refine sY hf hs rfl rfl rfl (Y_load_blk rfl rfl (i := 0) rfl rfl ag2) ?_; clear hf; intro a hf
     refine sY hf hs rfl rfl rfl (Y_makeFunc (us := []) (vs := [.pointer (some ⟨b2, 0, none⟩)]) rfl rfl rfl) ?_; clear hf; intro a hf
     obtain ⟨r58, hc59, hm⟩ := bind_some hm
     refine sCall hf rfl rfl rfl rfl (cap := []) rfl rfl en135 (impl_mappedGraph_ok F ab ac ab.Places.length ad rfl ab.Events (fun x0 => impl_RelabelGraph_c1 F x0 aD) 152 ([.pointer (some ⟨b2, 0, none⟩)]) _ _ hc59 (aq.at hs) (fun x0 r w' hm_ hb => impl_RelabelGraph_c1_ok F x0 b2 aD aI aD.length aJ rfl r w' hm_ ((bg.at hs).below hb (Nat.le_refl _)) ((hs.pb (i := 1) rfl).below hb (Nat.le_refl _))) en152) ?_; clear hf
     rintro _ w ⟨A60, n61, c62, rfl, hn63, hs1⟩ a hf
     have hs : St [] W w [.blk b1 59 [.int .i64 ab.Events, .slice ac ab.Places.length ad], .blk b2 23 [.slice aI aD.length aJ], .blk b3 59 [.int .i64 0, .slice none 0 0], .row A60 n61 c62 127 4 ((recs GPlace.cells) r58.Places)] := hs.join hs1
     clear hs1
     refine sStore (i := 2) (us := [.int .i64 r58.Events, .slice A60 n61 c62]) hf hs rfl rfl rfl rfl rfl rfl ti59 rfl rfl rfl (Nat.le_of_ble_eq_true rfl) rfl ?_; clear hs; intro w hs
     have hs : St [] W w [.blk b1 59 [.int .i64 ab.Events, .slice ac ab.Places.length ad], .blk b2 23 [.slice aI aD.length aJ], .blk b3 59 [.int .i64 r58.Events, .slice A60 n61 c62], .row A60 n61 c62 127 4 ((recs GPlace.cells) r58.Places)] := hs
     refine sY hf hs rfl rfl rfl (Y_assign rfl rfl) ?_; clear hf; intro a hf
     refine wpO_nil ?_
     obtain rfl := Option.some.inj hm
     refine wpL_ret (ret_cell_tmp rfl hf rfl rfl hs (i := 2) rfl ag59 ti59 rfl ?_)
     exact ⟨_, rfl, A60, n61, c62, rfl, hn63, hs.sel [3] (by decide)⟩

set_option maxRecDepth 100000 in
theorem spec_l01Has_ok (F : Nat) (aM : List Int) (aO : Option Addr) (aT aW : Nat) (aZ : aT = aM.length) (cJ : Int) (r : Bool) (W : World) (hm : spec_l01Has F aM cJ = some r) (aR : Rd W aO (ints aM)) :
  Calls Try.prog 180 [.slice aO aT aW, .int .i64 cJ].toArray W fun e w' => ∃ v, e = .returned v ∧ v = .bool r ∧ St [] W w' [] := by
 subst aZ
 unfold spec_l01Has at hm
 refine Calls.enter (N := 18) Try.func180 rfl rfl rfl (fun a hf => ?_)
 have hs := St.start W
 obtain ⟨w, hw_⟩ : ∃ w, w = W := ⟨W, rfl⟩
 clear hw_ w
 refine wpL_seq <| wpL_region ?_
 refine sY hf hs rfl rfl rfl (Y_assign rfl rfl) ?_; clear hf; intro a hf
 refine wpO_nil <| wpL_seq <| wpL_seq <| wpL_region ?_
 refine sY hf hs rfl rfl rfl (Y_assign rfl rfl) ?_; clear hf; intro a hf
 refine wpO_nil ?_
 obtain ⟨r15, hl16, hm⟩ := bind_some hm
 refine wpL_block (fun a w => Sum.inr () = r15 ∧ Fr a 18 [] ∧ St [] W w []) ?_ ?_
 ·refine wpL_loop (fun n a w => ∃ x10 : Int, spec_l01Has_L1 F aM cJ n x10 = some r15 ∧ Fr a 18 [(0, .slice aO aM.length aW), (1, .int .i64 cJ), (5, .int .i64 x10)] ∧ St [] W w []) F ?_ ?_ ?_
  ·exact ⟨0, hl16, (FrD.pick (FrD.pick (FrD.pick hf.none hf rfl) hf rfl) hf rfl), hs⟩
  ·rintro a w ⟨x10, h0_, -, -⟩; simp [spec_l01Has_L1] at h0_
  ·rintro n18 a w ⟨x10, hm17, hf, hs⟩
   rw [spec_l01Has_L1] at hm17
   refine wpL_seq <| wpL_seq <| wpL_region ?_
   refine sY hf hs rfl rfl rfl (Y_move rfl rfl) ?_; clear hf; intro a hf
   refine sY hf hs rfl rfl rfl (Y_move rfl rfl) ?_; clear hf; intro a hf
   refine sY hf hs rfl rfl rfl (Y_lenH rfl rfl el23 rfl) ?_; clear hf; intro a hf
   refine sY hf hs rfl rfl rfl (Y_lss rfl rfl rfl) ?_; clear hf; intro a hf
   refine wpO_nil ?_
   refine wpL_cond hf rfl (fun hb19 => ?_) (fun hb19 => ?_)
   ·have hm17 := bif_t hm17 hb19
    refine wpL_skip <| wpL_seq <| wpL_block0 <| wpL_seq <| wpL_region ?_
    refine sY hf hs rfl rfl rfl (Y_move rfl rfl) ?_; clear hf; intro a hf
    refine sY hf hs rfl rfl rfl (Y_move rfl rfl) ?_; clear hf; intro a hf
    obtain ⟨q20, hi21, hm17⟩ := bind_some hm17
    obtain ⟨hi21a, hi21b, hi21q⟩ := idx_some hi21
    refine sY hf hs rfl rfl rfl (Y_index rfl rfl rfl el23 ti2 (Rd.isAt (aR.at hs) (at1 (ints_at hi21q))) hi21a hi21b) ?_; clear hf; intro a hf
    refine sY hf hs rfl rfl rfl (Y_load_rd rfl rfl (fun w hs => aR.at hs) (at1 (ints_at hi21q)) ag2) ?_; clear hf; intro a hf
    refine sY hf hs rfl rfl rfl (Y_move rfl rfl) ?_; clear hf; intro a hf
    refine sY hf hs rfl rfl rfl (Y_eql rfl rfl rfl) ?_; clear hf; intro a hf
    refine wpO_nil ?_
    refine wpL_cond hf rfl (fun hb22 => ?_) (fun hb22 => ?_)
    ·have hm17 := bif_t hm17 hb22
     refine wpL_seq <| wpL_region ?_
     refine sY hf hs rfl rfl rfl (Y_assign rfl rfl) ?_; clear hf; intro a hf
     refine wpO_nil ?_
     obtain rfl := Option.some.inj hm17
     try dsimp only at hm
     obtain rfl := Option.some.inj hm
     refine wpL_ret (Qb_ret (Ql_ret (Qb_ret (ret_tmp rfl hf rfl ?_))))
     exact ⟨_, rfl, rfl, hs⟩
    ·have hm17 := bif_f hm17 hb22
     refine wpL_skip ?_
     refine wpL_nil (Qb_normal ?_)
     refine wpL_region ?_
     refine sY hf hs rfl rfl rfl (Y_move rfl rfl) ?_; clear hf; intro a hf
     refine sY hf hs rfl rfl rfl (Y_add rfl rfl rfl) ?_; clear hf; intro a hf
     refine sY hf hs rfl rfl rfl (Y_assign rfl rfl) ?_; clear hf; intro a hf
     refine wpO_nil ?_
     refine wpL_nil (Ql_normal ?_)
     exact ⟨(IntKind.i64.wrap (x10 + 1)), hm17, (FrD.pick (FrD.pick (FrD.pick hf.none hf rfl) hf rfl) hf rfl), hs⟩
   ·have hm17 := bif_f hm17 hb19
    refine wpL_exit (Ql_exit (Qb_exit ?_))
    exact ⟨Option.some.inj hm17, hf.none, hs⟩
 ·rintro a w ⟨hr_, hf, hs⟩
  subst hr_
  try dsimp only at hm
  refine wpL_seq <| wpL_region ?_
  refine sY hf hs rfl rfl rfl (Y_assign rfl rfl) ?_; clear hf; intro a hf
  refine wpO_nil ?_
  obtain rfl := Option.some.inj hm
  refine wpL_ret (ret_tmp rfl hf rfl ?_)
  exact ⟨_, rfl, rfl, hs⟩

end Go.Proofs.Ytgkgimglgjfcjaa
