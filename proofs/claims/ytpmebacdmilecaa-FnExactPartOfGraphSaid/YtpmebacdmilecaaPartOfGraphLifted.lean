/- The functions do what their models say. -/
import Derived.Test.YtpmebacdmilecaaPartOfGraphLifted1
import Derived.Test.YtpmebacdmilecaaRows
namespace Go.Proofs.Ytpmebacdmilecaa
open Go.RowKit

set_option maxRecDepth 100000 in
theorem impl_PartOfGraph_ok (F : Nat) (p0_g : GEventGraph) (A_p0_g_1 : Option Addr) (n_p0_g_1 c_p0_g_1 : Nat) (hn_p0_g_1 : n_p0_g_1 = p0_g.Places.length) (p1_events : List Int) (A_p1_events_1 : Option Addr) (n_p1_events_1 c_p1_events_1 : Nat) (hn_p1_events_1 : n_p1_events_1 = p1_events.length) (r : GEventGraph × Int) (W : World) (hm : impl_PartOfGraph F p0_g p1_events = some r) (h_p0_g_1 : Rd W A_p0_g_1 ((recs GPlace.cells) p0_g.Places)) (h_p1_events_1 : Rd W A_p1_events_1 (ints p1_events)) :
    Calls Try.prog 32 [.agg #[.int .i64 p0_g.Events, .slice A_p0_g_1 n_p0_g_1 c_p0_g_1], .slice A_p1_events_1 n_p1_events_1 c_p1_events_1].toArray W fun e w' => ∃ v, e = .returned v ∧ ∃ A38, ∃ n39, ∃ c40, v = .tuple #[.agg #[.int .i64 r.1.Events, .slice A38 n39 c40], .int .i64 r.2] ∧ n39 = r.1.Places.length ∧ St [] W w' [.row A38 n39 c40 96 4 ((recs GPlace.cells) r.1.Places)] := by
  subst hn_p0_g_1
  subst hn_p1_events_1
  unfold impl_PartOfGraph at hm
  refine Calls.enter (N := 38) Try.func32 rfl rfl rfl (fun a hf => ?_)
  have hs := St.start W
  obtain ⟨w, hw_⟩ : ∃ w, w = W := ⟨W, rfl⟩
  clear hw_ w
  refine wpL_seq ?_
  refine wpL_region ?_
  refine sBox hf hs rfl rfl rfl rfl rfl (cs := [.int .i64 p0_g.Events, .slice A_p0_g_1 p0_g.Places.length c_p0_g_1]) rfl ?_; clear hf hs; intro a w b1 hs hf
  have hs : St [] W w [.blk b1 39 [.int .i64 p0_g.Events, .slice A_p0_g_1 p0_g.Places.length c_p0_g_1]] := hs
  refine sBox hf hs rfl rfl rfl rfl rfl (cs := [.slice A_p1_events_1 p1_events.length c_p1_events_1]) rfl ?_; clear hf hs; intro a w b2 hs hf
  have hs : St [] W w [.blk b1 39 [.int .i64 p0_g.Events, .slice A_p0_g_1 p0_g.Places.length c_p0_g_1], .blk b2 23 [.slice A_p1_events_1 p1_events.length c_p1_events_1]] := hs
  refine sAlloc hf hs rfl rfl rfl rfl ti39 ?_; clear hf hs; intro a w b3 hs hf
  have hs : St [] W w [.blk b1 39 [.int .i64 p0_g.Events, .slice A_p0_g_1 p0_g.Places.length c_p0_g_1], .blk b2 23 [.slice A_p1_events_1 p1_events.length c_p1_events_1], .blk b3 39 [.int .i64 0, .slice none 0 0]] := hs
  refine sY hf hs rfl rfl rfl (Y_assign rfl rfl) ?_; clear hf; intro a hf
  refine wpO_nil ?_
  refine wpL_seq ?_
  refine wpL_seq ?_
  refine wpL_region ?_
  refine sY hf hs rfl rfl rfl (Y_load_blkS rfl rfl (i := 0) rfl ag39 ti39 rfl) ?_; clear hf; intro a hf
  obtain ⟨r4, hc5, hm⟩ := bind_some hm
  refine sCall hf rfl rfl rfl rfl (cap := []) rfl rfl en79 (impl_IsEventGraph_ok F p0_g A_p0_g_1 p0_g.Places.length c_p0_g_1 rfl _ _ hc5 (h_p0_g_1.at hs)) ?_; clear hf
  rintro _ w ⟨rfl, hs1⟩ a hf
  have hs : St [] W w [.blk b1 39 [.int .i64 p0_g.Events, .slice A_p0_g_1 p0_g.Places.length c_p0_g_1], .blk b2 23 [.slice A_p1_events_1 p1_events.length c_p1_events_1], .blk b3 39 [.int .i64 0, .slice none 0 0]] := hs.ext hs1.below
  clear hs1
  refine sY hf hs rfl rfl rfl (Y_not rfl rfl) ?_; clear hf; intro a hf
  refine wpO_nil ?_
  refine wpL_cond hf rfl (fun hb6 => ?_) (fun hb6 => ?_)
  · have hm := bif_t hm hb6
    refine wpL_seq ?_
    refine wpL_region ?_
    refine sY hf hs rfl rfl rfl (Y_build (parts := []) (vs := []) rfl rfl (run_build (parts := []) (cells := [.int .i64 0, .slice none 0 0]) (places := #[(0, 1), (1, 1)]) ti39 Try.underlying39 (fun w => by simp [go_sem]) rfl)) ?_; clear hf; intro a hf
    refine sStore (i := 2) (us := [.int .i64 0, .slice none 0 0]) hf hs rfl rfl rfl rfl rfl rfl ti39 rfl rfl rfl (Nat.le_of_ble_eq_true rfl) rfl ?_; clear hs; intro w hs
    have hs : St [] W w [.blk b1 39 [.int .i64 p0_g.Events, .slice A_p0_g_1 p0_g.Places.length c_p0_g_1], .blk b2 23 [.slice A_p1_events_1 p1_events.length c_p1_events_1], .blk b3 39 [.int .i64 0, .slice none 0 0]] := hs
    refine sY hf hs rfl rfl rfl (Y_assign rfl rfl) ?_; clear hf; intro a hf
    refine wpO_nil ?_
    have hs : St [] W _ [.blk b1 39 [.int .i64 p0_g.Events, .slice A_p0_g_1 p0_g.Places.length c_p0_g_1], .blk b2 23 [.slice A_p1_events_1 p1_events.length c_p1_events_1], .blk b3 39 [.int .i64 0, .slice none 0 0], .row none 0 0 96 4 ((recs GPlace.cells) ([] : List GPlace))] := hs.addNil 96 4
    obtain rfl := Option.some.inj hm
    refine wpL_ret (ret_cell_tmp rfl hf rfl rfl hs (i := 2) rfl ag39 ti39 rfl ?_)
    exact ⟨_, rfl, none, 0, 0, rfl, rfl, hs.sel [3] (by decide)⟩
  · have hm := bif_f hm hb6
    refine wpL_skip ?_
    refine wpL_seq ?_
    refine wpL_seq ?_
    obtain ⟨r15, hj16, hm⟩ := bind_some hm
    refine wpL_cut (fun a w => ∃ b14 : Bool, b14 = r15 ∧ Fr a 38 [(2, .pointer (some ⟨b1, 0, none⟩)), (3, .pointer (some ⟨b2, 0, none⟩)), (4, .pointer (some ⟨b3, 0, none⟩)), (26, .bool b14)] ∧ St [] W w [.blk b1 39 [.int .i64 p0_g.Events, .slice A_p0_g_1 p0_g.Places.length c_p0_g_1], .blk b2 23 [.slice A_p1_events_1 p1_events.length c_p1_events_1], .blk b3 39 [.int .i64 0, .slice none 0 0]]) ?_ ?_
    · refine wpL_region ?_
      refine sY hf hs rfl rfl rfl (Y_load_blk rfl rfl (i := 1) rfl rfl ag23) ?_; clear hf; intro a hf
      refine sY hf hs rfl rfl rfl (Y_lenH rfl rfl el23 rfl) ?_; clear hf; intro a hf
      refine sY hf hs rfl rfl rfl (Y_eql rfl rfl rfl) ?_; clear hf; intro a hf
      refine sY hf hs rfl rfl rfl (Y_move rfl rfl) ?_; clear hf; intro a hf
      refine bsplit ((p1_events.length : Int) == 0) (fun hb17 => ?_) (fun hb17 => ?_)
      · have hj16 := bif_t hj16 hb17
        refine sNo hf rfl rfl rfl (congrArg (fun b => some (Value.bool b)) hb17) rfl rfl rfl ?_; clear hf; intro a hf
        refine sNo hf rfl rfl rfl (congrArg (fun b => some (Value.bool b)) hb17) rfl rfl rfl ?_; clear hf; intro a hf
        refine sNo hf rfl rfl rfl (congrArg (fun b => some (Value.bool b)) hb17) rfl rfl rfl ?_; clear hf; intro a hf
        refine sNo hf rfl rfl rfl (congrArg (fun b => some (Value.bool b)) hb17) rfl rfl rfl ?_; clear hf; intro a hf
        refine sNo hf rfl rfl rfl (congrArg (fun b => some (Value.bool b)) hb17) rfl rfl rfl ?_; clear hf; intro a hf
        refine sNo hf rfl rfl rfl (congrArg (fun b => some (Value.bool b)) hb17) rfl rfl rfl ?_; clear hf; intro a hf
        refine sY hf hs rfl rfl rfl (Y_pickT rfl (congrArg (fun b => some (Value.bool b)) hb17) rfl) ?_; clear hf; intro a hf
        refine sY hf hs rfl rfl rfl (Y_move rfl rfl) ?_; clear hf; intro a hf
        refine sNo hf rfl rfl rfl rfl rfl rfl rfl ?_; clear hf; intro a hf
        refine sNo hf rfl rfl rfl rfl rfl rfl rfl ?_; clear hf; intro a hf
        refine sNo hf rfl rfl rfl rfl rfl rfl rfl ?_; clear hf; intro a hf
        refine sY hf hs rfl rfl rfl (Y_pickT rfl rfl rfl) ?_; clear hf; intro a hf
        refine wpO_nil ?_
        refine wpL_nil (then_normal ?_)
        exact ⟨true, Option.some.inj hj16, (FrD.pick (FrD.pick (FrD.pick (FrD.pick hf.none hf rfl) hf rfl) hf rfl) hf rfl), hs⟩
      · have hj16 := bif_f hj16 hb17
        refine sYg hf hs rfl rfl rfl (congrArg (fun b => some (Value.bool b)) hb17) rfl rfl rfl (Y_load_blk rfl rfl (i := 1) rfl rfl ag23) ?_; clear hf; intro a hf
        refine sYg hf hs rfl rfl rfl (congrArg (fun b => some (Value.bool b)) hb17) rfl rfl rfl (Y_fieldAddr rfl rfl fo39_0) ?_; clear hf; intro a hf
        refine sYg hf hs rfl rfl rfl (congrArg (fun b => some (Value.bool b)) hb17) rfl rfl rfl (Y_load_blk rfl rfl (i := 0) rfl rfl ag2) ?_; clear hf; intro a hf
        refine sYg hf hs rfl rfl rfl (congrArg (fun b => some (Value.bool b)) hb17) rfl rfl rfl (Y_sub rfl rfl rfl) ?_; clear hf; intro a hf
        obtain ⟨r18, hc19, hj16⟩ := bind_some hj16
        refine sCallg hf rfl rfl rfl (congrArg (fun b => some (Value.bool b)) hb17) rfl rfl rfl rfl (cap := []) rfl rfl en80 (impl_allWithin_ok F p1_events A_p1_events_1 p1_events.length c_p1_events_1 rfl 0 (IntKind.i64.wrap (p0_g.Events - 1)) _ _ hc19 (h_p1_events_1.at hs)) ?_; clear hf
        rintro _ w ⟨rfl, hs1⟩ a hf
        have hs : St [] W w [.blk b1 39 [.int .i64 p0_g.Events, .slice A_p0_g_1 p0_g.Places.length c_p0_g_1], .blk b2 23 [.slice A_p1_events_1 p1_events.length c_p1_events_1], .blk b3 39 [.int .i64 0, .slice none 0 0]] := hs.ext hs1.below
        clear hs1
        refine sYg hf hs rfl rfl rfl (congrArg (fun b => some (Value.bool b)) hb17) rfl rfl rfl (Y_not rfl rfl) ?_; clear hf; intro a hf
        refine sY hf hs rfl rfl rfl (Y_pickF rfl (congrArg (fun b => some (Value.bool b)) hb17) rfl) ?_; clear hf; intro a hf
        refine sY hf hs rfl rfl rfl (Y_move rfl rfl) ?_; clear hf; intro a hf
        refine bsplit (!r18) (fun hb20 => ?_) (fun hb20 => ?_)
        · have hj16 := bif_t hj16 hb20
          refine sNo hf rfl rfl rfl (congrArg (fun b => some (Value.bool b)) hb20) rfl rfl rfl ?_; clear hf; intro a hf
          refine sNo hf rfl rfl rfl (congrArg (fun b => some (Value.bool b)) hb20) rfl rfl rfl ?_; clear hf; intro a hf
          refine sNo hf rfl rfl rfl (congrArg (fun b => some (Value.bool b)) hb20) rfl rfl rfl ?_; clear hf; intro a hf
          refine sY hf hs rfl rfl rfl (Y_pickT rfl (congrArg (fun b => some (Value.bool b)) hb20) rfl) ?_; clear hf; intro a hf
          refine wpO_nil ?_
          refine wpL_nil (then_normal ?_)
          exact ⟨true, Option.some.inj hj16, (FrD.pick (FrD.pick (FrD.pick (FrD.pick hf.none hf rfl) hf rfl) hf rfl) hf rfl), hs⟩
        · have hj16 := bif_f hj16 hb20
          refine sYg hf hs rfl rfl rfl (congrArg (fun b => some (Value.bool b)) hb20) rfl rfl rfl (Y_load_blk rfl rfl (i := 1) rfl rfl ag23) ?_; clear hf; intro a hf
          obtain ⟨r21, hc22, hj16⟩ := bind_some hj16
          refine sCallg hf rfl rfl rfl (congrArg (fun b => some (Value.bool b)) hb20) rfl rfl rfl rfl (cap := []) rfl rfl en88 (impl_increasing_ok F p1_events A_p1_events_1 p1_events.length c_p1_events_1 rfl _ _ hc22 (h_p1_events_1.at hs)) ?_; clear hf
          rintro _ w ⟨rfl, hs1⟩ a hf
          have hs : St [] W w [.blk b1 39 [.int .i64 p0_g.Events, .slice A_p0_g_1 p0_g.Places.length c_p0_g_1], .blk b2 23 [.slice A_p1_events_1 p1_events.length c_p1_events_1], .blk b3 39 [.int .i64 0, .slice none 0 0]] := hs.ext hs1.below
          clear hs1
          refine sYg hf hs rfl rfl rfl (congrArg (fun b => some (Value.bool b)) hb20) rfl rfl rfl (Y_not rfl rfl) ?_; clear hf; intro a hf
          refine sY hf hs rfl rfl rfl (Y_pickF rfl (congrArg (fun b => some (Value.bool b)) hb20) rfl) ?_; clear hf; intro a hf
          refine wpO_nil ?_
          refine wpL_nil (then_normal ?_)
          exact ⟨(!r21), Option.some.inj hj16, (FrD.pick (FrD.pick (FrD.pick (FrD.pick hf.none hf rfl) hf rfl) hf rfl) hf rfl), hs⟩
    · rintro a w ⟨b14, hr_, hf, hs⟩
      subst hr_
      try dsimp only at hm
      refine wpL_cond hf rfl (fun hb23 => ?_) (fun hb23 => ?_)
      · have hm := bif_t hm hb23
        refine wpL_seq ?_
        refine wpL_region ?_
        refine sY hf hs rfl rfl rfl (Y_build (parts := []) (vs := []) rfl rfl (run_build (parts := []) (cells := [.int .i64 0, .slice none 0 0]) (places := #[(0, 1), (1, 1)]) ti39 Try.underlying39 (fun w => by simp [go_sem]) rfl)) ?_; clear hf; intro a hf
        refine sStore (i := 2) (us := [.int .i64 0, .slice none 0 0]) hf hs rfl rfl rfl rfl rfl rfl ti39 rfl rfl rfl (Nat.le_of_ble_eq_true rfl) rfl ?_; clear hs; intro w hs
        have hs : St [] W w [.blk b1 39 [.int .i64 p0_g.Events, .slice A_p0_g_1 p0_g.Places.length c_p0_g_1], .blk b2 23 [.slice A_p1_events_1 p1_events.length c_p1_events_1], .blk b3 39 [.int .i64 0, .slice none 0 0]] := hs
        refine sY hf hs rfl rfl rfl (Y_assign rfl rfl) ?_; clear hf; intro a hf
        refine wpO_nil ?_
        have hs : St [] W _ [.blk b1 39 [.int .i64 p0_g.Events, .slice A_p0_g_1 p0_g.Places.length c_p0_g_1], .blk b2 23 [.slice A_p1_events_1 p1_events.length c_p1_events_1], .blk b3 39 [.int .i64 0, .slice none 0 0], .row none 0 0 96 4 ((recs GPlace.cells) ([] : List GPlace))] := hs.addNil 96 4
        obtain rfl := Option.some.inj hm
        refine wpL_ret (ret_cell_tmp rfl hf rfl rfl hs (i := 2) rfl ag39 ti39 rfl ?_)
        exact ⟨_, rfl, none, 0, 0, rfl, rfl, hs.sel [3] (by decide)⟩
      · have hm := bif_f hm hb23
        refine wpL_skip ?_
        refine wpL_seq ?_
        refine wpL_region ?_
        refine sY hf hs rfl rfl rfl (Y_load_blkS rfl rfl (i := 0) rfl ag39 ti39 rfl) ?_; clear hf; intro a hf
        refine sY hf hs rfl rfl rfl (Y_load_blk rfl rfl (i := 1) rfl rfl ag23) ?_; clear hf; intro a hf
        refine sY hf hs rfl rfl rfl (Y_lenH rfl rfl el23 rfl) ?_; clear hf; intro a hf
        refine sY hf hs rfl rfl rfl (Y_makeFunc (us := []) (vs := [.pointer (some ⟨b2, 0, none⟩)]) rfl rfl rfl) ?_; clear hf; intro a hf
        obtain ⟨r25, hc26, hm⟩ := bind_some hm
        refine sCall hf rfl rfl rfl rfl (cap := []) rfl rfl en82 (impl_mappedGraph_ok F p0_g A_p0_g_1 p0_g.Places.length c_p0_g_1 rfl (p1_events.length : Int) (fun x0 => impl_PartOfGraph_c1 F x0 p1_events) 89 ([.pointer (some ⟨b2, 0, none⟩)]) _ _ hc26 (h_p0_g_1.at hs) (fun x0 r w' hm_ hb => impl_PartOfGraph_c1_ok F x0 b2 p1_events A_p1_events_1 p1_events.length c_p1_events_1 rfl r w' hm_ ((h_p1_events_1.at hs).below hb (Nat.le_refl _)) ((hs.pb (i := 1) rfl).below hb (Nat.le_refl _))) en89) ?_; clear hf
        rintro _ w ⟨A27, n28, c29, rfl, hn30, hs1⟩ a hf
        have hs : St [] W w [.blk b1 39 [.int .i64 p0_g.Events, .slice A_p0_g_1 p0_g.Places.length c_p0_g_1], .blk b2 23 [.slice A_p1_events_1 p1_events.length c_p1_events_1], .blk b3 39 [.int .i64 0, .slice none 0 0], .row A27 n28 c29 96 4 ((recs GPlace.cells) r25.Places)] := hs.join hs1
        clear hs1
        refine sAlloc hf hs rfl rfl rfl rfl ti39 ?_; clear hf hs; intro a w b31 hs hf
        have hs : St [] W w [.blk b1 39 [.int .i64 p0_g.Events, .slice A_p0_g_1 p0_g.Places.length c_p0_g_1], .blk b2 23 [.slice A_p1_events_1 p1_events.length c_p1_events_1], .blk b3 39 [.int .i64 0, .slice none 0 0], .row A27 n28 c29 96 4 ((recs GPlace.cells) r25.Places), .blk b31 39 [.int .i64 0, .slice none 0 0]] := hs
        refine sStore (i := 4) (us := [.int .i64 r25.Events, .slice A27 n28 c29]) hf hs rfl rfl rfl rfl rfl rfl ti39 rfl rfl rfl (Nat.le_of_ble_eq_true rfl) rfl ?_; clear hs; intro w hs
        have hs : St [] W w [.blk b1 39 [.int .i64 p0_g.Events, .slice A_p0_g_1 p0_g.Places.length c_p0_g_1], .blk b2 23 [.slice A_p1_events_1 p1_events.length c_p1_events_1], .blk b3 39 [.int .i64 0, .slice none 0 0], .row A27 n28 c29 96 4 ((recs GPlace.cells) r25.Places), .blk b31 39 [.int .i64 r25.Events, .slice A27 n28 c29]] := hs
        refine wpO_nil ?_
        refine wpL_seq ?_
        refine wpL_region ?_
        refine sY hf hs rfl rfl rfl (Y_fieldAddr rfl rfl fo39_1) ?_; clear hf; intro a hf
        refine sY hf hs rfl rfl rfl (Y_load_blk rfl rfl (i := 4) rfl rfl ag37) ?_; clear hf; intro a hf
        obtain ⟨r32, hc33, hm⟩ := bind_some hm
        refine sCall hf rfl rfl rfl rfl (cap := []) rfl rfl en91 (slices_DeleteFunc_Place_ok F r25.Places A27 n28 c29 hn30 (fun x0 => impl_PartOfGraph_c2 F x0) 92 [] _ _ hc33 (hs.res _ _ (show _[3]? = some _ from rfl)) (fun x0 r w' hm_ hb => impl_PartOfGraph_c2_ok F x0 r w' hm_ ) en92) ?_; clear hf
        rintro _ w ⟨n34, rfl, hn35, hk36, hn37, hs1⟩ a hf
        have hs : St [] W w [.blk b1 39 [.int .i64 p0_g.Events, .slice A_p0_g_1 p0_g.Places.length c_p0_g_1], .blk b2 23 [.slice A_p1_events_1 p1_events.length c_p1_events_1], .blk b3 39 [.int .i64 0, .slice none 0 0], .row A27 n28 c29 96 4 ((recs GPlace.cells) r32.2), .blk b31 39 [.int .i64 r25.Events, .slice A27 n28 c29]] := hs.mut (i := 3) rfl (fun b hb => muA_mem hb) hs1
        clear hs1
        refine sY hf hs rfl rfl rfl (Y_fieldAddr rfl rfl fo39_1) ?_; clear hf; intro a hf
        have hs := (St.cutRecs GPlace.len hs (i := 3) rfl hn37 hk36)
        have hs : St [] W _ [.blk b1 39 [.int .i64 p0_g.Events, .slice A_p0_g_1 p0_g.Places.length c_p0_g_1], .blk b2 23 [.slice A_p1_events_1 p1_events.length c_p1_events_1], .blk b3 39 [.int .i64 0, .slice none 0 0], .row A27 n34 c29 96 4 ((recs GPlace.cells) r32.1), .blk b31 39 [.int .i64 r25.Events, .slice A27 n28 c29]] := hs
        refine sStore (i := 4) (us := [.slice A27 n34 c29]) hf hs rfl rfl rfl rfl rfl rfl ti37 rfl rfl rfl (Nat.le_of_ble_eq_true rfl) rfl ?_; clear hs; intro w hs
        have hs : St [] W w [.blk b1 39 [.int .i64 p0_g.Events, .slice A_p0_g_1 p0_g.Places.length c_p0_g_1], .blk b2 23 [.slice A_p1_events_1 p1_events.length c_p1_events_1], .blk b3 39 [.int .i64 0, .slice none 0 0], .row A27 n34 c29 96 4 ((recs GPlace.cells) r32.1), .blk b31 39 [.int .i64 r25.Events, .slice A27 n34 c29]] := hs
        refine wpO_nil ?_
        refine wpL_seq ?_
        refine wpL_region ?_
        refine sY hf hs rfl rfl rfl (Y_load_blkS rfl rfl (i := 4) rfl ag39 ti39 rfl) ?_; clear hf; intro a hf
        refine sStore (i := 2) (us := [.int .i64 r25.Events, .slice A27 n34 c29]) hf hs rfl rfl rfl rfl rfl rfl ti39 rfl rfl rfl (Nat.le_of_ble_eq_true rfl) rfl ?_; clear hs; intro w hs
        have hs : St [] W w [.blk b1 39 [.int .i64 p0_g.Events, .slice A_p0_g_1 p0_g.Places.length c_p0_g_1], .blk b2 23 [.slice A_p1_events_1 p1_events.length c_p1_events_1], .blk b3 39 [.int .i64 r25.Events, .slice A27 n34 c29], .row A27 n34 c29 96 4 ((recs GPlace.cells) r32.1), .blk b31 39 [.int .i64 r25.Events, .slice A27 n34 c29]] := hs
        refine sY hf hs rfl rfl rfl (Y_assign rfl rfl) ?_; clear hf; intro a hf
        refine wpO_nil ?_
        obtain rfl := Option.some.inj hm
        refine wpL_ret (ret_cell_tmp rfl hf rfl rfl hs (i := 2) rfl ag39 ti39 rfl ?_)
        exact ⟨_, rfl, A27, n34, c29, rfl, hn35, hs.sel [3] (by decide)⟩

set_option maxRecDepth 100000 in
theorem laws_eqPlace_ok (F : Nat) (p0_a : GPlace) (p1_b : GPlace) (r : Bool) (W : World) (hm : laws_eqPlace F p0_a p1_b = some r) :
    Calls Try.prog 150 [.agg #[.int .i64 p0_a.From, .int .i64 p0_a.To, .int .i64 p0_a.Delay, .int .i64 p0_a.Tokens], .agg #[.int .i64 p1_b.From, .int .i64 p1_b.To, .int .i64 p1_b.Delay, .int .i64 p1_b.Tokens]].toArray W fun e w' => ∃ v, e = .returned v ∧ v = .bool r ∧ St [] W w' [] := by
  unfold laws_eqPlace at hm
  refine Calls.enter (N := 25) Try.func150 rfl rfl rfl (fun a hf => ?_)
  have hs := St.start W
  obtain ⟨w, hw_⟩ : ∃ w, w = W := ⟨W, rfl⟩
  clear hw_ w
  refine wpL_seq ?_
  refine wpL_region ?_
  refine sBox hf hs rfl rfl rfl rfl rfl (cs := [.int .i64 p0_a.From, .int .i64 p0_a.To, .int .i64 p0_a.Delay, .int .i64 p0_a.Tokens]) rfl ?_; clear hf hs; intro a w b1 hs hf
  have hs : St [] W w [.blk b1 96 [.int .i64 p0_a.From, .int .i64 p0_a.To, .int .i64 p0_a.Delay, .int .i64 p0_a.Tokens]] := hs
  refine sBox hf hs rfl rfl rfl rfl rfl (cs := [.int .i64 p1_b.From, .int .i64 p1_b.To, .int .i64 p1_b.Delay, .int .i64 p1_b.Tokens]) rfl ?_; clear hf hs; intro a w b2 hs hf
  have hs : St [] W w [.blk b1 96 [.int .i64 p0_a.From, .int .i64 p0_a.To, .int .i64 p0_a.Delay, .int .i64 p0_a.Tokens], .blk b2 96 [.int .i64 p1_b.From, .int .i64 p1_b.To, .int .i64 p1_b.Delay, .int .i64 p1_b.Tokens]] := hs
  refine sY hf hs rfl rfl rfl (Y_assign rfl rfl) ?_; clear hf; intro a hf
  refine wpO_nil ?_
  refine wpL_seq ?_
  refine wpL_seq ?_
  refine wpL_region ?_
  refine sY hf hs rfl rfl rfl (Y_fieldAddr rfl rfl fo96_0) ?_; clear hf; intro a hf
  refine sY hf hs rfl rfl rfl (Y_load_blk rfl rfl (i := 0) rfl rfl ag2) ?_; clear hf; intro a hf
  refine sY hf hs rfl rfl rfl (Y_fieldAddr rfl rfl fo96_0) ?_; clear hf; intro a hf
  refine sY hf hs rfl rfl rfl (Y_load_blk rfl rfl (i := 1) rfl rfl ag2) ?_; clear hf; intro a hf
  refine sY hf hs rfl rfl rfl (Y_neq rfl rfl rfl) ?_; clear hf; intro a hf
  refine wpO_nil ?_
  refine wpL_cond hf rfl (fun hb3 => ?_) (fun hb3 => ?_)
  · have hm := bif_t hm hb3
    refine wpL_seq ?_
    refine wpL_region ?_
    refine sY hf hs rfl rfl rfl (Y_assign rfl rfl) ?_; clear hf; intro a hf
    refine wpO_nil ?_
    obtain rfl := Option.some.inj hm
    refine wpL_ret (ret_tmp rfl hf rfl ?_)
    exact ⟨_, rfl, rfl, hs.sel [] (by decide)⟩
  · have hm := bif_f hm hb3
    refine wpL_skip ?_
    refine wpL_seq ?_
    refine wpL_seq ?_
    refine wpL_region ?_
    refine sY hf hs rfl rfl rfl (Y_fieldAddr rfl rfl fo96_1) ?_; clear hf; intro a hf
    refine sY hf hs rfl rfl rfl (Y_load_blk rfl rfl (i := 0) rfl rfl ag2) ?_; clear hf; intro a hf
    refine sY hf hs rfl rfl rfl (Y_fieldAddr rfl rfl fo96_1) ?_; clear hf; intro a hf
    refine sY hf hs rfl rfl rfl (Y_load_blk rfl rfl (i := 1) rfl rfl ag2) ?_; clear hf; intro a hf
    refine sY hf hs rfl rfl rfl (Y_neq rfl rfl rfl) ?_; clear hf; intro a hf
    refine wpO_nil ?_
    refine wpL_cond hf rfl (fun hb4 => ?_) (fun hb4 => ?_)
    · have hm := bif_t hm hb4
      refine wpL_seq ?_
      refine wpL_region ?_
      refine sY hf hs rfl rfl rfl (Y_assign rfl rfl) ?_; clear hf; intro a hf
      refine wpO_nil ?_
      obtain rfl := Option.some.inj hm
      refine wpL_ret (ret_tmp rfl hf rfl ?_)
      exact ⟨_, rfl, rfl, hs.sel [] (by decide)⟩
    · have hm := bif_f hm hb4
      refine wpL_skip ?_
      refine wpL_seq ?_
      refine wpL_seq ?_
      refine wpL_region ?_
      refine sY hf hs rfl rfl rfl (Y_fieldAddr rfl rfl fo96_2) ?_; clear hf; intro a hf
      refine sY hf hs rfl rfl rfl (Y_load_blk rfl rfl (i := 0) rfl rfl ag2) ?_; clear hf; intro a hf
      refine sY hf hs rfl rfl rfl (Y_fieldAddr rfl rfl fo96_2) ?_; clear hf; intro a hf
      refine sY hf hs rfl rfl rfl (Y_load_blk rfl rfl (i := 1) rfl rfl ag2) ?_; clear hf; intro a hf
      refine sY hf hs rfl rfl rfl (Y_neq rfl rfl rfl) ?_; clear hf; intro a hf
      refine wpO_nil ?_
      refine wpL_cond hf rfl (fun hb5 => ?_) (fun hb5 => ?_)
      · have hm := bif_t hm hb5
        refine wpL_seq ?_
        refine wpL_region ?_
        refine sY hf hs rfl rfl rfl (Y_assign rfl rfl) ?_; clear hf; intro a hf
        refine wpO_nil ?_
        obtain rfl := Option.some.inj hm
        refine wpL_ret (ret_tmp rfl hf rfl ?_)
        exact ⟨_, rfl, rfl, hs.sel [] (by decide)⟩
      · have hm := bif_f hm hb5
        refine wpL_skip ?_
        refine wpL_seq ?_
        refine wpL_seq ?_
        refine wpL_region ?_
        refine sY hf hs rfl rfl rfl (Y_fieldAddr rfl rfl fo96_3) ?_; clear hf; intro a hf
        refine sY hf hs rfl rfl rfl (Y_load_blk rfl rfl (i := 0) rfl rfl ag2) ?_; clear hf; intro a hf
        refine sY hf hs rfl rfl rfl (Y_fieldAddr rfl rfl fo96_3) ?_; clear hf; intro a hf
        refine sY hf hs rfl rfl rfl (Y_load_blk rfl rfl (i := 1) rfl rfl ag2) ?_; clear hf; intro a hf
        refine sY hf hs rfl rfl rfl (Y_neq rfl rfl rfl) ?_; clear hf; intro a hf
        refine wpO_nil ?_
        refine wpL_cond hf rfl (fun hb6 => ?_) (fun hb6 => ?_)
        · have hm := bif_t hm hb6
          refine wpL_seq ?_
          refine wpL_region ?_
          refine sY hf hs rfl rfl rfl (Y_assign rfl rfl) ?_; clear hf; intro a hf
          refine wpO_nil ?_
          obtain rfl := Option.some.inj hm
          refine wpL_ret (ret_tmp rfl hf rfl ?_)
          exact ⟨_, rfl, rfl, hs.sel [] (by decide)⟩
        · have hm := bif_f hm hb6
          refine wpL_skip ?_
          refine wpL_seq ?_
          refine wpL_region ?_
          refine sY hf hs rfl rfl rfl (Y_assign rfl rfl) ?_; clear hf; intro a hf
          refine wpO_nil ?_
          obtain rfl := Option.some.inj hm
          refine wpL_ret (ret_tmp rfl hf rfl ?_)
          exact ⟨_, rfl, rfl, hs.sel [] (by decide)⟩

set_option maxRecDepth 100000 in
theorem laws_eqPlaceS_ok (F : Nat) (p0_a : List GPlace) (A_p0_a_1 : Option Addr) (n_p0_a_1 c_p0_a_1 : Nat) (hn_p0_a_1 : n_p0_a_1 = p0_a.length) (p1_b : List GPlace) (A_p1_b_1 : Option Addr) (n_p1_b_1 c_p1_b_1 : Nat) (hn_p1_b_1 : n_p1_b_1 = p1_b.length) (r : Bool) (W : World) (hm : laws_eqPlaceS F p0_a p1_b = some r) (h_p0_a_1 : Rd W A_p0_a_1 ((recs GPlace.cells) p0_a)) (h_p1_b_1 : Rd W A_p1_b_1 ((recs GPlace.cells) p1_b)) :
    Calls Try.prog 84 [.slice A_p0_a_1 n_p0_a_1 c_p0_a_1, .slice A_p1_b_1 n_p1_b_1 c_p1_b_1].toArray W fun e w' => ∃ v, e = .returned v ∧ v = .bool r ∧ St [] W w' [] := by
  subst hn_p0_a_1
  subst hn_p1_b_1
  unfold laws_eqPlaceS at hm
  refine Calls.enter (N := 27) Try.func84 rfl rfl rfl (fun a hf => ?_)
  have hs := St.start W
  obtain ⟨w, hw_⟩ : ∃ w, w = W := ⟨W, rfl⟩
  clear hw_ w
  refine wpL_seq ?_
  refine wpL_region ?_
  refine sY hf hs rfl rfl rfl (Y_assign rfl rfl) ?_; clear hf; intro a hf
  refine wpO_nil ?_
  refine wpL_seq ?_
  refine wpL_seq ?_
  refine wpL_region ?_
  refine sY hf hs rfl rfl rfl (Y_move rfl rfl) ?_; clear hf; intro a hf
  refine sY hf hs rfl rfl rfl (Y_lenH rfl rfl el37 rfl) ?_; clear hf; intro a hf
  refine sY hf hs rfl rfl rfl (Y_move rfl rfl) ?_; clear hf; intro a hf
  refine sY hf hs rfl rfl rfl (Y_lenH rfl rfl el37 rfl) ?_; clear hf; intro a hf
  refine sY hf hs rfl rfl rfl (Y_neq rfl rfl rfl) ?_; clear hf; intro a hf
  refine wpO_nil ?_
  refine wpL_cond hf rfl (fun hb1 => ?_) (fun hb1 => ?_)
  · have hm := bif_t hm hb1
    refine wpL_seq ?_
    refine wpL_region ?_
    refine sY hf hs rfl rfl rfl (Y_assign rfl rfl) ?_; clear hf; intro a hf
    refine wpO_nil ?_
    obtain rfl := Option.some.inj hm
    refine wpL_ret (ret_tmp rfl hf rfl ?_)
    exact ⟨_, rfl, rfl, hs⟩
  · have hm := bif_f hm hb1
    refine wpL_skip ?_
    refine wpL_seq ?_
    refine wpL_seq ?_
    refine wpL_region ?_
    refine sY hf hs rfl rfl rfl (Y_assign rfl rfl) ?_; clear hf; intro a hf
    refine wpO_nil ?_
    obtain ⟨r28, hl29, hm⟩ := bind_some hm
    refine wpL_block (fun a w => Sum.inr () = r28 ∧ Fr a 27 [] ∧ St [] W w []) ?_ ?_
    · refine wpL_loop (fun n a w => ∃ x19 : Int, laws_eqPlaceS_L1 F p0_a p1_b n x19 = some r28 ∧ Fr a 27 [(0, .slice A_p0_a_1 p0_a.length c_p0_a_1), (1, .slice A_p1_b_1 p1_b.length c_p1_b_1), (5, .int .i64 x19)] ∧ St [] W w []) F ?_ ?_ ?_
      · exact ⟨0, hl29, (FrD.pick (FrD.pick (FrD.pick hf.none hf rfl) hf rfl) hf rfl), hs⟩
      · rintro a w ⟨x19, h0_, -, -⟩; simp [laws_eqPlaceS_L1] at h0_
      · rintro n31 a w ⟨x19, hm30, hf, hs⟩
        rw [laws_eqPlaceS_L1] at hm30
        refine wpL_seq ?_
        refine wpL_seq ?_
        refine wpL_region ?_
        refine sY hf hs rfl rfl rfl (Y_move rfl rfl) ?_; clear hf; intro a hf
        refine sY hf hs rfl rfl rfl (Y_move rfl rfl) ?_; clear hf; intro a hf
        refine sY hf hs rfl rfl rfl (Y_lenH rfl rfl el37 rfl) ?_; clear hf; intro a hf
        refine sY hf hs rfl rfl rfl (Y_lss rfl rfl rfl) ?_; clear hf; intro a hf
        refine wpO_nil ?_
        refine wpL_cond hf rfl (fun hb32 => ?_) (fun hb32 => ?_)
        · have hm30 := bif_t hm30 hb32
          refine wpL_skip ?_
          refine wpL_seq ?_
          refine wpL_block0 ?_
          refine wpL_seq ?_
          refine wpL_draw (by kernel_rfl) (by kernel_rfl) hs ?_
          refine qY hf rfl rfl rfl (Y_move rfl rfl) ?_; clear hf; intro a hf
          refine qY hf rfl rfl rfl (Y_move rfl rfl) ?_; clear hf; intro a hf
          obtain ⟨q33, hi34, hm30⟩ := bind_some hm30
          obtain ⟨hi34a, hi34b, hi34q⟩ := idx_some hi34
          refine qY hf rfl rfl rfl (Y_index rfl rfl rfl el37 ti96 (Rd.isAt (h_p0_a_1.at hs) (recs_at (s := 4) GPlace.len hi34q (j := 0) rfl)) hi34a hi34b) ?_; clear hf; intro a hf
          refine qY hf rfl rfl rfl (Y_load_rdS rfl rfl (us := [.int .i64 q33.From, .int .i64 q33.To, .int .i64 q33.Delay, .int .i64 q33.Tokens]) (fun w hs => h_p0_a_1.at hs) (fun j u hj => recs_at (s := 4) GPlace.len hi34q hj) (Nat.succ_pos _) ag96 ti96 rfl) ?_; clear hf; intro a hf
          refine qY hf rfl rfl rfl (Y_move rfl rfl) ?_; clear hf; intro a hf
          refine qY hf rfl rfl rfl (Y_move rfl rfl) ?_; clear hf; intro a hf
          obtain ⟨q35, hi36, hm30⟩ := bind_some hm30
          obtain ⟨hi36a, hi36b, hi36q⟩ := idx_some hi36
          refine qY hf rfl rfl rfl (Y_index rfl rfl rfl el37 ti96 (Rd.isAt (h_p1_b_1.at hs) (recs_at (s := 4) GPlace.len hi36q (j := 0) rfl)) hi36a hi36b) ?_; clear hf; intro a hf
          refine qY hf rfl rfl rfl (Y_load_rdS rfl rfl (us := [.int .i64 q35.From, .int .i64 q35.To, .int .i64 q35.Delay, .int .i64 q35.Tokens]) (fun w hs => h_p1_b_1.at hs) (fun j u hj => recs_at (s := 4) GPlace.len hi36q hj) (Nat.succ_pos _) ag96 ti96 rfl) ?_; clear hf; intro a hf
          obtain ⟨r37, hc38, hm30⟩ := bind_some hm30
          refine qCall hf rfl rfl rfl rfl (cap := []) rfl rfl en150 (v := .bool r37) (fun w hs => Calls.scal (laws_eqPlace_ok F q33 q35 _ _ hc38)) ?_; clear hf; intro a hf
          refine qY hf rfl rfl rfl (Y_not rfl rfl) ?_; clear hf; intro a hf
          refine qNil ?_; clear hs; intro w hs
          refine wpL_cond hf rfl (fun hb39 => ?_) (fun hb39 => ?_)
          · have hm30 := bif_t hm30 hb39
            refine wpL_seq ?_
            refine wpL_region ?_
            refine sY hf hs rfl rfl rfl (Y_assign rfl rfl) ?_; clear hf; intro a hf
            refine wpO_nil ?_
            obtain rfl := Option.some.inj hm30
            try dsimp only at hm
            obtain rfl := Option.some.inj hm
            refine wpL_ret (Qb_ret (Ql_ret (Qb_ret (ret_tmp rfl hf rfl ?_))))
            exact ⟨_, rfl, rfl, hs⟩
          · have hm30 := bif_f hm30 hb39
            refine wpL_skip ?_
            refine wpL_nil (Qb_normal ?_)
            refine wpL_region ?_
            refine sY hf hs rfl rfl rfl (Y_move rfl rfl) ?_; clear hf; intro a hf
            refine sY hf hs rfl rfl rfl (Y_add rfl rfl rfl) ?_; clear hf; intro a hf
            refine sY hf hs rfl rfl rfl (Y_assign rfl rfl) ?_; clear hf; intro a hf
            refine wpO_nil ?_
            refine wpL_nil (Ql_normal ?_)
            exact ⟨(IntKind.i64.wrap (x19 + 1)), hm30, (FrD.pick (FrD.pick (FrD.pick hf.none hf rfl) hf rfl) hf rfl), hs⟩
        · have hm30 := bif_f hm30 hb32
          refine wpL_exit (Ql_exit (Qb_exit ?_))
          exact ⟨Option.some.inj hm30, hf.none, hs⟩
    · rintro a w ⟨hr_, hf, hs⟩
      subst hr_
      try dsimp only at hm
      refine wpL_seq ?_
      refine wpL_region ?_
      refine sY hf hs rfl rfl rfl (Y_assign rfl rfl) ?_; clear hf; intro a hf
      refine wpO_nil ?_
      obtain rfl := Option.some.inj hm
      refine wpL_ret (ret_tmp rfl hf rfl ?_)
      exact ⟨_, rfl, rfl, hs⟩

set_option maxRecDepth 100000 in
theorem laws_eqEventGraph_ok (F : Nat) (p0_a : GEventGraph) (A_p0_a_1 : Option Addr) (n_p0_a_1 c_p0_a_1 : Nat) (hn_p0_a_1 : n_p0_a_1 = p0_a.Places.length) (p1_b : GEventGraph) (A_p1_b_1 : Option Addr) (n_p1_b_1 c_p1_b_1 : Nat) (hn_p1_b_1 : n_p1_b_1 = p1_b.Places.length) (r : Bool) (W : World) (hm : laws_eqEventGraph F p0_a p1_b = some r) (h_p0_a_1 : Rd W A_p0_a_1 ((recs GPlace.cells) p0_a.Places)) (h_p1_b_1 : Rd W A_p1_b_1 ((recs GPlace.cells) p1_b.Places)) :
    Calls Try.prog 28 [.agg #[.int .i64 p0_a.Events, .slice A_p0_a_1 n_p0_a_1 c_p0_a_1], .agg #[.int .i64 p1_b.Events, .slice A_p1_b_1 n_p1_b_1 c_p1_b_1]].toArray W fun e w' => ∃ v, e = .returned v ∧ v = .bool r ∧ St [] W w' [] := by
  subst hn_p0_a_1
  subst hn_p1_b_1
  unfold laws_eqEventGraph at hm
  refine Calls.enter (N := 16) Try.func28 rfl rfl rfl (fun a hf => ?_)
  have hs := St.start W
  obtain ⟨w, hw_⟩ : ∃ w, w = W := ⟨W, rfl⟩
  clear hw_ w
  refine wpL_seq ?_
  refine wpL_region ?_
  refine sBox hf hs rfl rfl rfl rfl rfl (cs := [.int .i64 p0_a.Events, .slice A_p0_a_1 p0_a.Places.length c_p0_a_1]) rfl ?_; clear hf hs; intro a w b1 hs hf
  have hs : St [] W w [.blk b1 39 [.int .i64 p0_a.Events, .slice A_p0_a_1 p0_a.Places.length c_p0_a_1]] := hs
  refine sBox hf hs rfl rfl rfl rfl rfl (cs := [.int .i64 p1_b.Events, .slice A_p1_b_1 p1_b.Places.length c_p1_b_1]) rfl ?_; clear hf hs; intro a w b2 hs hf
  have hs : St [] W w [.blk b1 39 [.int .i64 p0_a.Events, .slice A_p0_a_1 p0_a.Places.length c_p0_a_1], .blk b2 39 [.int .i64 p1_b.Events, .slice A_p1_b_1 p1_b.Places.length c_p1_b_1]] := hs
  refine sY hf hs rfl rfl rfl (Y_assign rfl rfl) ?_; clear hf; intro a hf
  refine wpO_nil ?_
  refine wpL_seq ?_
  refine wpL_seq ?_
  refine wpL_region ?_
  refine sY hf hs rfl rfl rfl (Y_fieldAddr rfl rfl fo39_0) ?_; clear hf; intro a hf
  refine sY hf hs rfl rfl rfl (Y_load_blk rfl rfl (i := 0) rfl rfl ag2) ?_; clear hf; intro a hf
  refine sY hf hs rfl rfl rfl (Y_fieldAddr rfl rfl fo39_0) ?_; clear hf; intro a hf
  refine sY hf hs rfl rfl rfl (Y_load_blk rfl rfl (i := 1) rfl rfl ag2) ?_; clear hf; intro a hf
  refine sY hf hs rfl rfl rfl (Y_neq rfl rfl rfl) ?_; clear hf; intro a hf
  refine wpO_nil ?_
  refine wpL_cond hf rfl (fun hb3 => ?_) (fun hb3 => ?_)
  · have hm := bif_t hm hb3
    refine wpL_seq ?_
    refine wpL_region ?_
    refine sY hf hs rfl rfl rfl (Y_assign rfl rfl) ?_; clear hf; intro a hf
    refine wpO_nil ?_
    obtain rfl := Option.some.inj hm
    refine wpL_ret (ret_tmp rfl hf rfl ?_)
    exact ⟨_, rfl, rfl, hs.sel [] (by decide)⟩
  · have hm := bif_f hm hb3
    refine wpL_skip ?_
    refine wpL_seq ?_
    refine wpL_seq ?_
    refine wpL_region ?_
    refine sY hf hs rfl rfl rfl (Y_fieldAddr rfl rfl fo39_1) ?_; clear hf; intro a hf
    refine sY hf hs rfl rfl rfl (Y_load_blk rfl rfl (i := 0) rfl rfl ag37) ?_; clear hf; intro a hf
    refine sY hf hs rfl rfl rfl (Y_fieldAddr rfl rfl fo39_1) ?_; clear hf; intro a hf
    refine sY hf hs rfl rfl rfl (Y_load_blk rfl rfl (i := 1) rfl rfl ag37) ?_; clear hf; intro a hf
    obtain ⟨r4, hc5, hm⟩ := bind_some hm
    refine sCall hf rfl rfl rfl rfl (cap := []) rfl rfl en84 (laws_eqPlaceS_ok F p0_a.Places A_p0_a_1 p0_a.Places.length c_p0_a_1 rfl p1_b.Places A_p1_b_1 p1_b.Places.length c_p1_b_1 rfl _ _ hc5 (h_p0_a_1.at hs) (h_p1_b_1.at hs)) ?_; clear hf
    rintro _ w ⟨rfl, hs1⟩ a hf
    have hs : St [] W w [.blk b1 39 [.int .i64 p0_a.Events, .slice A_p0_a_1 p0_a.Places.length c_p0_a_1], .blk b2 39 [.int .i64 p1_b.Events, .slice A_p1_b_1 p1_b.Places.length c_p1_b_1]] := hs.ext hs1.below
    clear hs1
    refine sY hf hs rfl rfl rfl (Y_not rfl rfl) ?_; clear hf; intro a hf
    refine wpO_nil ?_
    refine wpL_cond hf rfl (fun hb6 => ?_) (fun hb6 => ?_)
    · have hm := bif_t hm hb6
      refine wpL_seq ?_
      refine wpL_region ?_
      refine sY hf hs rfl rfl rfl (Y_assign rfl rfl) ?_; clear hf; intro a hf
      refine wpO_nil ?_
      obtain rfl := Option.some.inj hm
      refine wpL_ret (ret_tmp rfl hf rfl ?_)
      exact ⟨_, rfl, rfl, hs.sel [] (by decide)⟩
    · have hm := bif_f hm hb6
      refine wpL_skip ?_
      refine wpL_seq ?_
      refine wpL_region ?_
      refine sY hf hs rfl rfl rfl (Y_assign rfl rfl) ?_; clear hf; intro a hf
      refine wpO_nil ?_
      obtain rfl := Option.some.inj hm
      refine wpL_ret (ret_tmp rfl hf rfl ?_)
      exact ⟨_, rfl, rfl, hs.sel [] (by decide)⟩

set_option maxRecDepth 100000 in
theorem laws_eqInt64S_ok (F : Nat) (p0_a : List Int) (A_p0_a_1 : Option Addr) (n_p0_a_1 c_p0_a_1 : Nat) (hn_p0_a_1 : n_p0_a_1 = p0_a.length) (p1_b : List Int) (A_p1_b_1 : Option Addr) (n_p1_b_1 c_p1_b_1 : Nat) (hn_p1_b_1 : n_p1_b_1 = p1_b.length) (r : Bool) (W : World) (hm : laws_eqInt64S F p0_a p1_b = some r) (h_p0_a_1 : Rd W A_p0_a_1 (ints p0_a)) (h_p1_b_1 : Rd W A_p1_b_1 (ints p1_b)) :
    Calls Try.prog 19 [.slice A_p0_a_1 n_p0_a_1 c_p0_a_1, .slice A_p1_b_1 n_p1_b_1 c_p1_b_1].toArray W fun e w' => ∃ v, e = .returned v ∧ v = .bool r ∧ St [] W w' [] := by
  subst hn_p0_a_1
  subst hn_p1_b_1
  unfold laws_eqInt64S at hm
  refine Calls.enter (N := 26) Try.func19 rfl rfl rfl (fun a hf => ?_)
  have hs := St.start W
  obtain ⟨w, hw_⟩ : ∃ w, w = W := ⟨W, rfl⟩
  clear hw_ w
  refine wpL_seq ?_
  refine wpL_region ?_
  refine sY hf hs rfl rfl rfl (Y_assign rfl rfl) ?_; clear hf; intro a hf
  refine wpO_nil ?_
  refine wpL_seq ?_
  refine wpL_seq ?_
  refine wpL_region ?_
  refine sY hf hs rfl rfl rfl (Y_move rfl rfl) ?_; clear hf; intro a hf
  refine sY hf hs rfl rfl rfl (Y_lenH rfl rfl el23 rfl) ?_; clear hf; intro a hf
  refine sY hf hs rfl rfl rfl (Y_move rfl rfl) ?_; clear hf; intro a hf
  refine sY hf hs rfl rfl rfl (Y_lenH rfl rfl el23 rfl) ?_; clear hf; intro a hf
  refine sY hf hs rfl rfl rfl (Y_neq rfl rfl rfl) ?_; clear hf; intro a hf
  refine wpO_nil ?_
  refine wpL_cond hf rfl (fun hb1 => ?_) (fun hb1 => ?_)
  · have hm := bif_t hm hb1
    refine wpL_seq ?_
    refine wpL_region ?_
    refine sY hf hs rfl rfl rfl (Y_assign rfl rfl) ?_; clear hf; intro a hf
    refine wpO_nil ?_
    obtain rfl := Option.some.inj hm
    refine wpL_ret (ret_tmp rfl hf rfl ?_)
    exact ⟨_, rfl, rfl, hs⟩
  · have hm := bif_f hm hb1
    refine wpL_skip ?_
    refine wpL_seq ?_
    refine wpL_seq ?_
    refine wpL_region ?_
    refine sY hf hs rfl rfl rfl (Y_assign rfl rfl) ?_; clear hf; intro a hf
    refine wpO_nil ?_
    obtain ⟨r22, hl23, hm⟩ := bind_some hm
    refine wpL_block (fun a w => Sum.inr () = r22 ∧ Fr a 26 [] ∧ St [] W w []) ?_ ?_
    · refine wpL_loop (fun n a w => ∃ x15 : Int, laws_eqInt64S_L1 F p0_a p1_b n x15 = some r22 ∧ Fr a 26 [(0, .slice A_p0_a_1 p0_a.length c_p0_a_1), (1, .slice A_p1_b_1 p1_b.length c_p1_b_1), (5, .int .i64 x15)] ∧ St [] W w []) F ?_ ?_ ?_
      · exact ⟨0, hl23, (FrD.pick (FrD.pick (FrD.pick hf.none hf rfl) hf rfl) hf rfl), hs⟩
      · rintro a w ⟨x15, h0_, -, -⟩; simp [laws_eqInt64S_L1] at h0_
      · rintro n25 a w ⟨x15, hm24, hf, hs⟩
        rw [laws_eqInt64S_L1] at hm24
        refine wpL_seq ?_
        refine wpL_seq ?_
        refine wpL_region ?_
        refine sY hf hs rfl rfl rfl (Y_move rfl rfl) ?_; clear hf; intro a hf
        refine sY hf hs rfl rfl rfl (Y_move rfl rfl) ?_; clear hf; intro a hf
        refine sY hf hs rfl rfl rfl (Y_lenH rfl rfl el23 rfl) ?_; clear hf; intro a hf
        refine sY hf hs rfl rfl rfl (Y_lss rfl rfl rfl) ?_; clear hf; intro a hf
        refine wpO_nil ?_
        refine wpL_cond hf rfl (fun hb26 => ?_) (fun hb26 => ?_)
        · have hm24 := bif_t hm24 hb26
          refine wpL_skip ?_
          refine wpL_seq ?_
          refine wpL_block0 ?_
          refine wpL_seq ?_
          refine wpL_draw (by kernel_rfl) (by kernel_rfl) hs ?_
          refine qY hf rfl rfl rfl (Y_move rfl rfl) ?_; clear hf; intro a hf
          refine qY hf rfl rfl rfl (Y_move rfl rfl) ?_; clear hf; intro a hf
          obtain ⟨q27, hi28, hm24⟩ := bind_some hm24
          obtain ⟨hi28a, hi28b, hi28q⟩ := idx_some hi28
          refine qY hf rfl rfl rfl (Y_index rfl rfl rfl el23 ti2 (Rd.isAt (h_p0_a_1.at hs) (at1 (ints_at hi28q))) hi28a hi28b) ?_; clear hf; intro a hf
          refine qY hf rfl rfl rfl (Y_load_rd rfl rfl (fun w hs => h_p0_a_1.at hs) (at1 (ints_at hi28q)) ag2) ?_; clear hf; intro a hf
          refine qY hf rfl rfl rfl (Y_move rfl rfl) ?_; clear hf; intro a hf
          refine qY hf rfl rfl rfl (Y_move rfl rfl) ?_; clear hf; intro a hf
          obtain ⟨q29, hi30, hm24⟩ := bind_some hm24
          obtain ⟨hi30a, hi30b, hi30q⟩ := idx_some hi30
          refine qY hf rfl rfl rfl (Y_index rfl rfl rfl el23 ti2 (Rd.isAt (h_p1_b_1.at hs) (at1 (ints_at hi30q))) hi30a hi30b) ?_; clear hf; intro a hf
          refine qY hf rfl rfl rfl (Y_load_rd rfl rfl (fun w hs => h_p1_b_1.at hs) (at1 (ints_at hi30q)) ag2) ?_; clear hf; intro a hf
          refine qY hf rfl rfl rfl (Y_neq rfl rfl rfl) ?_; clear hf; intro a hf
          refine qNil ?_; clear hs; intro w hs
          refine wpL_cond hf rfl (fun hb31 => ?_) (fun hb31 => ?_)
          · have hm24 := bif_t hm24 hb31
            refine wpL_seq ?_
            refine wpL_region ?_
            refine sY hf hs rfl rfl rfl (Y_assign rfl rfl) ?_; clear hf; intro a hf
            refine wpO_nil ?_
            obtain rfl := Option.some.inj hm24
            try dsimp only at hm
            obtain rfl := Option.some.inj hm
            refine wpL_ret (Qb_ret (Ql_ret (Qb_ret (ret_tmp rfl hf rfl ?_))))
            exact ⟨_, rfl, rfl, hs⟩
          · have hm24 := bif_f hm24 hb31
            refine wpL_skip ?_
            refine wpL_nil (Qb_normal ?_)
            refine wpL_region ?_
            refine sY hf hs rfl rfl rfl (Y_move rfl rfl) ?_; clear hf; intro a hf
            refine sY hf hs rfl rfl rfl (Y_add rfl rfl rfl) ?_; clear hf; intro a hf
            refine sY hf hs rfl rfl rfl (Y_assign rfl rfl) ?_; clear hf; intro a hf
            refine wpO_nil ?_
            refine wpL_nil (Ql_normal ?_)
            exact ⟨(IntKind.i64.wrap (x15 + 1)), hm24, (FrD.pick (FrD.pick (FrD.pick hf.none hf rfl) hf rfl) hf rfl), hs⟩
        · have hm24 := bif_f hm24 hb26
          refine wpL_exit (Ql_exit (Qb_exit ?_))
          exact ⟨Option.some.inj hm24, hf.none, hs⟩
    · rintro a w ⟨hr_, hf, hs⟩
      subst hr_
      try dsimp only at hm
      refine wpL_seq ?_
      refine wpL_region ?_
      refine sY hf hs rfl rfl rfl (Y_assign rfl rfl) ?_; clear hf; intro a hf
      refine wpO_nil ?_
      obtain rfl := Option.some.inj hm
      refine wpL_ret (ret_tmp rfl hf rfl ?_)
      exact ⟨_, rfl, rfl, hs⟩

set_option maxRecDepth 100000 in
theorem laws_markPlaceS_ok (F : Nat) (p0_a : List GPlace) (A_p0_a_1 : Option Addr) (n_p0_a_1 c_p0_a_1 : Nat) (hn_p0_a_1 : n_p0_a_1 = p0_a.length) (p1_k : Int) (r : (Int) × List GPlace) (W : World) (hm : laws_markPlaceS F p0_a p1_k = some r) (h_p0_a_1 : (Res.row A_p0_a_1 n_p0_a_1 c_p0_a_1 96 4 ((recs GPlace.cells) p0_a) : Res).holds 0 W) :
    Calls Try.prog 85 [.slice A_p0_a_1 n_p0_a_1 c_p0_a_1, .int .i64 p1_k].toArray W fun e w' => ∃ v, e = .returned v ∧ v = .int .i64 r.1 ∧ n_p0_a_1 = r.2.length ∧ St (muA A_p0_a_1) W w' [.row A_p0_a_1 n_p0_a_1 c_p0_a_1 96 4 ((recs GPlace.cells) r.2)] := by
  subst hn_p0_a_1
  unfold laws_markPlaceS at hm
  refine Calls.enter (N := 41) Try.func85 rfl rfl rfl (fun a hf => ?_)
  have hs : St (muA A_p0_a_1) W W [.row A_p0_a_1 p0_a.length c_p0_a_1 96 4 ((recs GPlace.cells) p0_a)] := St.startMut h_p0_a_1 (fun b hb => mem_muA hb)
  obtain ⟨w, hw_⟩ : ∃ w, w = W := ⟨W, rfl⟩
  clear hw_ w
  refine wpL_seq ?_
  refine wpL_region ?_
  refine sY hf hs rfl rfl rfl (Y_assign rfl rfl) ?_; clear hf; intro a hf
  refine wpO_nil ?_
  refine wpL_seq ?_
  refine wpL_seq ?_
  refine wpL_region ?_
  refine sY hf hs rfl rfl rfl (Y_assign rfl rfl) ?_; clear hf; intro a hf
  refine wpO_nil ?_
  obtain ⟨r63, hl64, hm⟩ := bind_some hm
  refine wpL_block (fun a w => ∃ xs60 : List GPlace, ∃ x62 : Int, (xs60, x62) = r63 ∧ p0_a.length = xs60.length ∧ Fr a 41 [(1, .int .i64 x62)] ∧ St (muA A_p0_a_1) W w [.row A_p0_a_1 p0_a.length c_p0_a_1 96 4 ((recs GPlace.cells) xs60)]) ?_ ?_
  · refine wpL_loop (fun n a w => ∃ xs39 : List GPlace, ∃ x41 : Int, ∃ x42 : Int, laws_markPlaceS_L1 F n xs39 x41 x42 = some r63 ∧ p0_a.length = xs39.length ∧ Fr a 41 [(0, .slice A_p0_a_1 p0_a.length c_p0_a_1), (1, .int .i64 x41), (5, .int .i64 x42)] ∧ St (muA A_p0_a_1) W w [.row A_p0_a_1 p0_a.length c_p0_a_1 96 4 ((recs GPlace.cells) xs39)]) F ?_ ?_ ?_
    · exact ⟨p0_a, p1_k, 0, hl64, rfl, (FrD.pick (FrD.pick (FrD.pick hf.none hf rfl) hf rfl) hf rfl), hs⟩
    · rintro a w ⟨xs39, x41, x42, h0_, -, -, -⟩; simp [laws_markPlaceS_L1] at h0_
    · rintro n66 a w ⟨xs39, x41, x42, hm65, hn40, hf, hs⟩
      rw [laws_markPlaceS_L1] at hm65
      refine wpL_seq ?_
      refine wpL_seq ?_
      refine wpL_region ?_
      refine sY hf hs rfl rfl rfl (Y_move rfl rfl) ?_; clear hf; intro a hf
      refine sY hf hs rfl rfl rfl (Y_move rfl rfl) ?_; clear hf; intro a hf
      refine sY hf hs rfl rfl rfl (Y_lenH rfl rfl el37 hn40) ?_; clear hf; intro a hf
      refine sY hf hs rfl rfl rfl (Y_lss rfl rfl rfl) ?_; clear hf; intro a hf
      refine wpO_nil ?_
      refine wpL_cond hf rfl (fun hb67 => ?_) (fun hb67 => ?_)
      · have hm65 := bif_t hm65 hb67
        refine wpL_skip ?_
        refine wpL_seq ?_
        refine wpL_block0 ?_
        refine wpL_seq ?_
        refine wpL_region ?_
        refine sY hf hs rfl rfl rfl (Y_move rfl rfl) ?_; clear hf; intro a hf
        refine sY hf hs rfl rfl rfl (Y_move rfl rfl) ?_; clear hf; intro a hf
        refine sY hf hs rfl rfl rfl (Y_move rfl rfl) ?_; clear hf; intro a hf
        obtain ⟨q68, hi69, hm65⟩ := bind_some hm65
        obtain ⟨hi69a, hi69b, hi69q⟩ := idx_some hi69
        refine sY hf hs rfl rfl rfl (Y_index rfl rfl rfl el37 ti96 (Rd.isAt (hs.rd (i := 0) rfl) (recs_at (s := 4) GPlace.len hi69q (j := 0) rfl)) hi69a (ltn hn40 hi69b)) ?_; clear hf; intro a hf
        refine sY hf hs rfl rfl rfl (Y_fieldAddrE rfl rfl fo96_0) ?_; clear hf; intro a hf
        obtain ⟨xs70, hu71, hm65⟩ := bind_some hm65
        refine sStoreF (i := 0) (s := 4) (fo := 0) (f := GPlace.cells) (x' := (GPlace.mk x41 q68.To q68.Delay q68.Tokens)) hf hs rfl rfl rfl rfl rfl rfl hi69q hu71 ti2 rfl rfl rfl GPlace.len rfl rfl ?_; clear hs; intro w hs
        have hs : St (muA A_p0_a_1) W w [.row A_p0_a_1 p0_a.length c_p0_a_1 96 4 ((recs GPlace.cells) xs70)] := hs
        refine wpO_nil ?_
        refine wpL_seq ?_
        refine wpL_region ?_
        refine sY hf hs rfl rfl rfl (Y_move rfl rfl) ?_; clear hf; intro a hf
        refine sY hf hs rfl rfl rfl (Y_add rfl rfl rfl) ?_; clear hf; intro a hf
        refine sY hf hs rfl rfl rfl (Y_assign rfl rfl) ?_; clear hf; intro a hf
        refine wpO_nil ?_
        refine wpL_seq ?_
        refine wpL_region ?_
        refine sY hf hs rfl rfl rfl (Y_move rfl rfl) ?_; clear hf; intro a hf
        refine sY hf hs rfl rfl rfl (Y_move rfl rfl) ?_; clear hf; intro a hf
        refine sY hf hs rfl rfl rfl (Y_move rfl rfl) ?_; clear hf; intro a hf
        obtain ⟨q72, hi73, hm65⟩ := bind_some hm65
        obtain ⟨hi73a, hi73b, hi73q⟩ := idx_some hi73
        refine sY hf hs rfl rfl rfl (Y_index rfl rfl rfl el37 ti96 (Rd.isAt (hs.rd (i := 0) rfl) (recs_at (s := 4) GPlace.len hi73q (j := 0) rfl)) hi73a (ltn ((hn40).trans (upd_len hu71).symm) hi73b)) ?_; clear hf; intro a hf
        refine sY hf hs rfl rfl rfl (Y_fieldAddrE rfl rfl fo96_1) ?_; clear hf; intro a hf
        obtain ⟨xs74, hu75, hm65⟩ := bind_some hm65
        refine sStoreF (i := 0) (s := 4) (fo := 1) (f := GPlace.cells) (x' := (GPlace.mk q72.From (IntKind.i64.wrap (x41 + 1)) q72.Delay q72.Tokens)) hf hs rfl rfl rfl rfl rfl rfl hi73q hu75 ti2 rfl rfl rfl GPlace.len rfl rfl ?_; clear hs; intro w hs
        have hs : St (muA A_p0_a_1) W w [.row A_p0_a_1 p0_a.length c_p0_a_1 96 4 ((recs GPlace.cells) xs74)] := hs
        refine wpO_nil ?_
        refine wpL_seq ?_
        refine wpL_region ?_
        refine sY hf hs rfl rfl rfl (Y_move rfl rfl) ?_; clear hf; intro a hf
        refine sY hf hs rfl rfl rfl (Y_add rfl rfl rfl) ?_; clear hf; intro a hf
        refine sY hf hs rfl rfl rfl (Y_assign rfl rfl) ?_; clear hf; intro a hf
        refine wpO_nil ?_
        refine wpL_seq ?_
        refine wpL_region ?_
        refine sY hf hs rfl rfl rfl (Y_move rfl rfl) ?_; clear hf; intro a hf
        refine sY hf hs rfl rfl rfl (Y_move rfl rfl) ?_; clear hf; intro a hf
        refine sY hf hs rfl rfl rfl (Y_move rfl rfl) ?_; clear hf; intro a hf
        obtain ⟨q76, hi77, hm65⟩ := bind_some hm65
        obtain ⟨hi77a, hi77b, hi77q⟩ := idx_some hi77
        refine sY hf hs rfl rfl rfl (Y_index rfl rfl rfl el37 ti96 (Rd.isAt (hs.rd (i := 0) rfl) (recs_at (s := 4) GPlace.len hi77q (j := 0) rfl)) hi77a (ltn ((((hn40).trans (upd_len hu71).symm)).trans (upd_len hu75).symm) hi77b)) ?_; clear hf; intro a hf
        refine sY hf hs rfl rfl rfl (Y_fieldAddrE rfl rfl fo96_2) ?_; clear hf; intro a hf
        obtain ⟨xs78, hu79, hm65⟩ := bind_some hm65
        refine sStoreF (i := 0) (s := 4) (fo := 2) (f := GPlace.cells) (x' := (GPlace.mk q76.From q76.To (IntKind.i64.wrap ((IntKind.i64.wrap (x41 + 1)) + 1)) q76.Tokens)) hf hs rfl rfl rfl rfl rfl rfl hi77q hu79 ti2 rfl rfl rfl GPlace.len rfl rfl ?_; clear hs; intro w hs
        have hs : St (muA A_p0_a_1) W w [.row A_p0_a_1 p0_a.length c_p0_a_1 96 4 ((recs GPlace.cells) xs78)] := hs
        refine wpO_nil ?_
        refine wpL_seq ?_
        refine wpL_region ?_
        refine sY hf hs rfl rfl rfl (Y_move rfl rfl) ?_; clear hf; intro a hf
        refine sY hf hs rfl rfl rfl (Y_add rfl rfl rfl) ?_; clear hf; intro a hf
        refine sY hf hs rfl rfl rfl (Y_assign rfl rfl) ?_; clear hf; intro a hf
        refine wpO_nil ?_
        refine wpL_seq ?_
        refine wpL_region ?_
        refine sY hf hs rfl rfl rfl (Y_move rfl rfl) ?_; clear hf; intro a hf
        refine sY hf hs rfl rfl rfl (Y_move rfl rfl) ?_; clear hf; intro a hf
        refine sY hf hs rfl rfl rfl (Y_move rfl rfl) ?_; clear hf; intro a hf
        obtain ⟨q80, hi81, hm65⟩ := bind_some hm65
        obtain ⟨hi81a, hi81b, hi81q⟩ := idx_some hi81
        refine sY hf hs rfl rfl rfl (Y_index rfl rfl rfl el37 ti96 (Rd.isAt (hs.rd (i := 0) rfl) (recs_at (s := 4) GPlace.len hi81q (j := 0) rfl)) hi81a (ltn ((((((hn40).trans (upd_len hu71).symm)).trans (upd_len hu75).symm)).trans (upd_len hu79).symm) hi81b)) ?_; clear hf; intro a hf
        refine sY hf hs rfl rfl rfl (Y_fieldAddrE rfl rfl fo96_3) ?_; clear hf; intro a hf
        obtain ⟨xs82, hu83, hm65⟩ := bind_some hm65
        refine sStoreF (i := 0) (s := 4) (fo := 3) (f := GPlace.cells) (x' := (GPlace.mk q80.From q80.To q80.Delay (IntKind.i64.wrap ((IntKind.i64.wrap ((IntKind.i64.wrap (x41 + 1)) + 1)) + 1)))) hf hs rfl rfl rfl rfl rfl rfl hi81q hu83 ti2 rfl rfl rfl GPlace.len rfl rfl ?_; clear hs; intro w hs
        have hs : St (muA A_p0_a_1) W w [.row A_p0_a_1 p0_a.length c_p0_a_1 96 4 ((recs GPlace.cells) xs82)] := hs
        refine wpO_nil ?_
        refine wpL_region ?_
        refine sY hf hs rfl rfl rfl (Y_move rfl rfl) ?_; clear hf; intro a hf
        refine sY hf hs rfl rfl rfl (Y_add rfl rfl rfl) ?_; clear hf; intro a hf
        refine sY hf hs rfl rfl rfl (Y_assign rfl rfl) ?_; clear hf; intro a hf
        refine wpO_nil ?_
        refine wpL_nil (Qb_normal ?_)
        refine wpL_region ?_
        refine sY hf hs rfl rfl rfl (Y_move rfl rfl) ?_; clear hf; intro a hf
        refine sY hf hs rfl rfl rfl (Y_add rfl rfl rfl) ?_; clear hf; intro a hf
        refine sY hf hs rfl rfl rfl (Y_assign rfl rfl) ?_; clear hf; intro a hf
        refine wpO_nil ?_
        refine wpL_nil (Ql_normal ?_)
        exact ⟨xs82, (IntKind.i64.wrap ((IntKind.i64.wrap ((IntKind.i64.wrap ((IntKind.i64.wrap (x41 + 1)) + 1)) + 1)) + 1)), (IntKind.i64.wrap (x42 + 1)), hm65, ((((((((hn40).trans (upd_len hu71).symm)).trans (upd_len hu75).symm)).trans (upd_len hu79).symm)).trans (upd_len hu83).symm), (FrD.pick (FrD.pick (FrD.pick hf.none hf rfl) hf rfl) hf rfl), hs⟩
      · have hm65 := bif_f hm65 hb67
        refine wpL_exit (Ql_exit (Qb_exit ?_))
        exact ⟨xs39, x41, Option.some.inj hm65, hn40, (FrD.pick hf.none hf rfl), hs⟩
  · rintro a w ⟨xs60, x62, hr_, hn61, hf, hs⟩
    subst hr_
    try dsimp only at hm
    refine wpL_seq ?_
    refine wpL_region ?_
    refine sY hf hs rfl rfl rfl (Y_move rfl rfl) ?_; clear hf; intro a hf
    refine sY hf hs rfl rfl rfl (Y_assign rfl rfl) ?_; clear hf; intro a hf
    refine wpO_nil ?_
    obtain rfl := Option.some.inj hm
    refine wpL_ret (ret_tmp rfl hf rfl ?_)
    exact ⟨_, rfl, rfl, hn61, hs⟩

set_option maxRecDepth 100000 in
theorem laws_markEventGraph_ok (F : Nat) (p0_a : GEventGraph) (A_p0_a_1 : Option Addr) (n_p0_a_1 c_p0_a_1 : Nat) (hn_p0_a_1 : n_p0_a_1 = p0_a.Places.length) (p1_k : Int) (r : (Int) × List GPlace) (W : World) (hm : laws_markEventGraph F p0_a p1_k = some r) (h_p0_a_1 : (Res.row A_p0_a_1 n_p0_a_1 c_p0_a_1 96 4 ((recs GPlace.cells) p0_a.Places) : Res).holds 0 W) :
    Calls Try.prog 29 [.agg #[.int .i64 p0_a.Events, .slice A_p0_a_1 n_p0_a_1 c_p0_a_1], .int .i64 p1_k].toArray W fun e w' => ∃ v, e = .returned v ∧ v = .int .i64 r.1 ∧ n_p0_a_1 = r.2.length ∧ St (muA A_p0_a_1) W w' [.row A_p0_a_1 n_p0_a_1 c_p0_a_1 96 4 ((recs GPlace.cells) r.2)] := by
  subst hn_p0_a_1
  unfold laws_markEventGraph at hm
  refine Calls.enter (N := 10) Try.func29 rfl rfl rfl (fun a hf => ?_)
  have hs : St (muA A_p0_a_1) W W [.row A_p0_a_1 p0_a.Places.length c_p0_a_1 96 4 ((recs GPlace.cells) p0_a.Places)] := St.startMut h_p0_a_1 (fun b hb => mem_muA hb)
  obtain ⟨w, hw_⟩ : ∃ w, w = W := ⟨W, rfl⟩
  clear hw_ w
  refine wpL_seq ?_
  refine wpL_region ?_
  refine sBox hf hs rfl rfl rfl rfl rfl (cs := [.int .i64 p0_a.Events, .slice A_p0_a_1 p0_a.Places.length c_p0_a_1]) rfl ?_; clear hf hs; intro a w b1 hs hf
  have hs : St (muA A_p0_a_1) W w [.row A_p0_a_1 p0_a.Places.length c_p0_a_1 96 4 ((recs GPlace.cells) p0_a.Places), .blk b1 39 [.int .i64 p0_a.Events, .slice A_p0_a_1 p0_a.Places.length c_p0_a_1]] := hs
  refine sY hf hs rfl rfl rfl (Y_assign rfl rfl) ?_; clear hf; intro a hf
  refine wpO_nil ?_
  refine wpL_seq ?_
  refine wpL_region ?_
  refine sY hf hs rfl rfl rfl (Y_fieldAddr rfl rfl fo39_1) ?_; clear hf; intro a hf
  refine sY hf hs rfl rfl rfl (Y_load_blk rfl rfl (i := 1) rfl rfl ag37) ?_; clear hf; intro a hf
  refine sY hf hs rfl rfl rfl (Y_move rfl rfl) ?_; clear hf; intro a hf
  obtain ⟨r2, hc3, hm⟩ := bind_some hm
  refine sCall hf rfl rfl rfl rfl (cap := []) rfl rfl en85 (laws_markPlaceS_ok F p0_a.Places A_p0_a_1 p0_a.Places.length c_p0_a_1 rfl p1_k _ _ hc3 (hs.res _ _ (show _[0]? = some _ from rfl))) ?_; clear hf
  rintro _ w ⟨rfl, hn4, hs1⟩ a hf
  have hs : St (muA A_p0_a_1) W w [.row A_p0_a_1 p0_a.Places.length c_p0_a_1 96 4 ((recs GPlace.cells) r2.2), .blk b1 39 [.int .i64 p0_a.Events, .slice A_p0_a_1 p0_a.Places.length c_p0_a_1]] := hs.mut (i := 0) rfl (fun b hb => muA_mem hb) hs1
  clear hs1
  refine sY hf hs rfl rfl rfl (Y_assign rfl rfl) ?_; clear hf; intro a hf
  refine wpO_nil ?_
  refine wpL_seq ?_
  refine wpL_region ?_
  refine sY hf hs rfl rfl rfl (Y_move rfl rfl) ?_; clear hf; intro a hf
  refine sY hf hs rfl rfl rfl (Y_assign rfl rfl) ?_; clear hf; intro a hf
  refine wpO_nil ?_
  obtain rfl := Option.some.inj hm
  refine wpL_ret (ret_tmp rfl hf rfl ?_)
  exact ⟨_, rfl, rfl, hn4, hs.sel [0] (by decide)⟩

set_option maxRecDepth 100000 in
theorem laws_markInt64S_ok (F : Nat) (p0_a : List Int) (A_p0_a_1 : Option Addr) (n_p0_a_1 c_p0_a_1 : Nat) (hn_p0_a_1 : n_p0_a_1 = p0_a.length) (p1_k : Int) (r : (Int) × List Int) (W : World) (hm : laws_markInt64S F p0_a p1_k = some r) (h_p0_a_1 : (Res.row A_p0_a_1 n_p0_a_1 c_p0_a_1 2 1 (ints p0_a) : Res).holds 0 W) :
    Calls Try.prog 22 [.slice A_p0_a_1 n_p0_a_1 c_p0_a_1, .int .i64 p1_k].toArray W fun e w' => ∃ v, e = .returned v ∧ v = .int .i64 r.1 ∧ n_p0_a_1 = r.2.length ∧ St (muA A_p0_a_1) W w' [.row A_p0_a_1 n_p0_a_1 c_p0_a_1 2 1 (ints r.2)] := by
  subst hn_p0_a_1
  unfold laws_markInt64S at hm
  refine Calls.enter (N := 19) Try.func22 rfl rfl rfl (fun a hf => ?_)
  have hs : St (muA A_p0_a_1) W W [.row A_p0_a_1 p0_a.length c_p0_a_1 2 1 (ints p0_a)] := St.startMut h_p0_a_1 (fun b hb => mem_muA hb)
  obtain ⟨w, hw_⟩ : ∃ w, w = W := ⟨W, rfl⟩
  clear hw_ w
  refine wpL_seq ?_
  refine wpL_region ?_
  refine sY hf hs rfl rfl rfl (Y_assign rfl rfl) ?_; clear hf; intro a hf
  refine wpO_nil ?_
  refine wpL_seq ?_
  refine wpL_seq ?_
  refine wpL_region ?_
  refine sY hf hs rfl rfl rfl (Y_assign rfl rfl) ?_; clear hf; intro a hf
  refine wpO_nil ?_
  obtain ⟨r27, hl28, hm⟩ := bind_some hm
  refine wpL_block (fun a w => ∃ xs24 : List Int, ∃ x26 : Int, (xs24, x26) = r27 ∧ p0_a.length = xs24.length ∧ Fr a 19 [(1, .int .i64 x26)] ∧ St (muA A_p0_a_1) W w [.row A_p0_a_1 p0_a.length c_p0_a_1 2 1 (ints xs24)]) ?_ ?_
  · refine wpL_loop (fun n a w => ∃ xs15 : List Int, ∃ x17 : Int, ∃ x18 : Int, laws_markInt64S_L1 F n xs15 x17 x18 = some r27 ∧ p0_a.length = xs15.length ∧ Fr a 19 [(0, .slice A_p0_a_1 p0_a.length c_p0_a_1), (1, .int .i64 x17), (5, .int .i64 x18)] ∧ St (muA A_p0_a_1) W w [.row A_p0_a_1 p0_a.length c_p0_a_1 2 1 (ints xs15)]) F ?_ ?_ ?_
    · exact ⟨p0_a, p1_k, 0, hl28, rfl, (FrD.pick (FrD.pick (FrD.pick hf.none hf rfl) hf rfl) hf rfl), hs⟩
    · rintro a w ⟨xs15, x17, x18, h0_, -, -, -⟩; simp [laws_markInt64S_L1] at h0_
    · rintro n30 a w ⟨xs15, x17, x18, hm29, hn16, hf, hs⟩
      rw [laws_markInt64S_L1] at hm29
      refine wpL_seq ?_
      refine wpL_seq ?_
      refine wpL_region ?_
      refine sY hf hs rfl rfl rfl (Y_move rfl rfl) ?_; clear hf; intro a hf
      refine sY hf hs rfl rfl rfl (Y_move rfl rfl) ?_; clear hf; intro a hf
      refine sY hf hs rfl rfl rfl (Y_lenH rfl rfl el23 hn16) ?_; clear hf; intro a hf
      refine sY hf hs rfl rfl rfl (Y_lss rfl rfl rfl) ?_; clear hf; intro a hf
      refine wpO_nil ?_
      refine wpL_cond hf rfl (fun hb31 => ?_) (fun hb31 => ?_)
      · have hm29 := bif_t hm29 hb31
        refine wpL_skip ?_
        refine wpL_seq ?_
        refine wpL_block0 ?_
        refine wpL_seq ?_
        refine wpL_region ?_
        refine sY hf hs rfl rfl rfl (Y_move rfl rfl) ?_; clear hf; intro a hf
        refine sY hf hs rfl rfl rfl (Y_move rfl rfl) ?_; clear hf; intro a hf
        refine sY hf hs rfl rfl rfl (Y_move rfl rfl) ?_; clear hf; intro a hf
        obtain ⟨q32, hi33, hm29⟩ := bind_some hm29
        obtain ⟨hi33a, hi33b, hi33q⟩ := idx_some hi33
        refine sY hf hs rfl rfl rfl (Y_index rfl rfl rfl el23 ti2 (Rd.isAt (hs.rd (i := 0) rfl) (at1 (ints_at hi33q))) hi33a (ltn hn16 hi33b)) ?_; clear hf; intro a hf
        obtain ⟨xs34, hu35, hm29⟩ := bind_some hm29
        refine sStoreL (i := 0) (us := [.int .i64 x17]) (enc := ints) hf hs rfl rfl rfl rfl rfl rfl hn16 hu35 ti2 rfl rfl rfl rfl rfl ints_len1 (ints_set x17) ?_; clear hs; intro w hs
        have hs : St (muA A_p0_a_1) W w [.row A_p0_a_1 p0_a.length c_p0_a_1 2 1 (ints xs34)] := hs
        refine wpO_nil ?_
        refine wpL_region ?_
        refine sY hf hs rfl rfl rfl (Y_move rfl rfl) ?_; clear hf; intro a hf
        refine sY hf hs rfl rfl rfl (Y_add rfl rfl rfl) ?_; clear hf; intro a hf
        refine sY hf hs rfl rfl rfl (Y_assign rfl rfl) ?_; clear hf; intro a hf
        refine wpO_nil ?_
        refine wpL_nil (Qb_normal ?_)
        refine wpL_region ?_
        refine sY hf hs rfl rfl rfl (Y_move rfl rfl) ?_; clear hf; intro a hf
        refine sY hf hs rfl rfl rfl (Y_add rfl rfl rfl) ?_; clear hf; intro a hf
        refine sY hf hs rfl rfl rfl (Y_assign rfl rfl) ?_; clear hf; intro a hf
        refine wpO_nil ?_
        refine wpL_nil (Ql_normal ?_)
        exact ⟨xs34, (IntKind.i64.wrap (x17 + 1)), (IntKind.i64.wrap (x18 + 1)), hm29, ((hn16).trans (upd_len hu35).symm), (FrD.pick (FrD.pick (FrD.pick hf.none hf rfl) hf rfl) hf rfl), hs⟩
      · have hm29 := bif_f hm29 hb31
        refine wpL_exit (Ql_exit (Qb_exit ?_))
        exact ⟨xs15, x17, Option.some.inj hm29, hn16, (FrD.pick hf.none hf rfl), hs⟩
  · rintro a w ⟨xs24, x26, hr_, hn25, hf, hs⟩
    subst hr_
    try dsimp only at hm
    refine wpL_seq ?_
    refine wpL_region ?_
    refine sY hf hs rfl rfl rfl (Y_move rfl rfl) ?_; clear hf; intro a hf
    refine sY hf hs rfl rfl rfl (Y_assign rfl rfl) ?_; clear hf; intro a hf
    refine wpO_nil ?_
    obtain rfl := Option.some.inj hm
    refine wpL_ret (ret_tmp rfl hf rfl ?_)
    exact ⟨_, rfl, rfl, hn25, hs⟩

set_option maxRecDepth 100000 in
theorem laws_heldPlaceS_ok (F : Nat) (p0_a : List GPlace) (A_p0_a_1 : Option Addr) (n_p0_a_1 c_p0_a_1 : Nat) (hn_p0_a_1 : n_p0_a_1 = p0_a.length) (p1_k : Int) (r : Int) (W : World) (hm : laws_heldPlaceS F p0_a p1_k = some r) (h_p0_a_1 : Rd W A_p0_a_1 ((recs GPlace.cells) p0_a)) :
    Calls Try.prog 86 [.slice A_p0_a_1 n_p0_a_1 c_p0_a_1, .int .i64 p1_k].toArray W fun e w' => ∃ v, e = .returned v ∧ v = .int .i64 r ∧ St [] W w' [] := by
  subst hn_p0_a_1
  unfold laws_heldPlaceS at hm
  refine Calls.enter (N := 49) Try.func86 rfl rfl rfl (fun a hf => ?_)
  have hs := St.start W
  obtain ⟨w, hw_⟩ : ∃ w, w = W := ⟨W, rfl⟩
  clear hw_ w
  refine wpL_seq ?_
  refine wpL_region ?_
  refine sY hf hs rfl rfl rfl (Y_assign rfl rfl) ?_; clear hf; intro a hf
  refine wpO_nil ?_
  refine wpL_seq ?_
  refine wpL_seq ?_
  refine wpL_region ?_
  refine sY hf hs rfl rfl rfl (Y_assign rfl rfl) ?_; clear hf; intro a hf
  refine wpO_nil ?_
  obtain ⟨r45, hl46, hm⟩ := bind_some hm
  refine wpL_block (fun a w => ∃ x44 : Int, Sum.inr x44 = r45 ∧ Fr a 49 [(1, .int .i64 x44)] ∧ St [] W w []) ?_ ?_
  · refine wpL_loop (fun n a w => ∃ x29 : Int, ∃ x30 : Int, laws_heldPlaceS_L1 F p0_a n x29 x30 = some r45 ∧ Fr a 49 [(0, .slice A_p0_a_1 p0_a.length c_p0_a_1), (1, .int .i64 x29), (5, .int .i64 x30)] ∧ St [] W w []) F ?_ ?_ ?_
    · exact ⟨p1_k, 0, hl46, (FrD.pick (FrD.pick (FrD.pick hf.none hf rfl) hf rfl) hf rfl), hs⟩
    · rintro a w ⟨x29, x30, h0_, -, -⟩; simp [laws_heldPlaceS_L1] at h0_
    · rintro n48 a w ⟨x29, x30, hm47, hf, hs⟩
      rw [laws_heldPlaceS_L1] at hm47
      refine wpL_seq ?_
      refine wpL_seq ?_
      refine wpL_region ?_
      refine sY hf hs rfl rfl rfl (Y_move rfl rfl) ?_; clear hf; intro a hf
      refine sY hf hs rfl rfl rfl (Y_move rfl rfl) ?_; clear hf; intro a hf
      refine sY hf hs rfl rfl rfl (Y_lenH rfl rfl el37 rfl) ?_; clear hf; intro a hf
      refine sY hf hs rfl rfl rfl (Y_lss rfl rfl rfl) ?_; clear hf; intro a hf
      refine wpO_nil ?_
      refine wpL_cond hf rfl (fun hb49 => ?_) (fun hb49 => ?_)
      · have hm47 := bif_t hm47 hb49
        refine wpL_skip ?_
        refine wpL_seq ?_
        refine wpL_block0 ?_
        refine wpL_seq ?_
        refine wpL_seq ?_
        refine wpL_region ?_
        refine sY hf hs rfl rfl rfl (Y_move rfl rfl) ?_; clear hf; intro a hf
        refine sY hf hs rfl rfl rfl (Y_move rfl rfl) ?_; clear hf; intro a hf
        obtain ⟨q50, hi51, hm47⟩ := bind_some hm47
        obtain ⟨hi51a, hi51b, hi51q⟩ := idx_some hi51
        refine sY hf hs rfl rfl rfl (Y_index rfl rfl rfl el37 ti96 (Rd.isAt (h_p0_a_1.at hs) (recs_at (s := 4) GPlace.len hi51q (j := 0) rfl)) hi51a hi51b) ?_; clear hf; intro a hf
        refine sY hf hs rfl rfl rfl (Y_fieldAddrE rfl rfl fo96_0) ?_; clear hf; intro a hf
        refine sY hf hs rfl rfl rfl (Y_load_rd rfl rfl (fun w hs => h_p0_a_1.at hs) (recs_at (s := 4) GPlace.len hi51q (j := 0) rfl) ag2) ?_; clear hf; intro a hf
        refine sY hf hs rfl rfl rfl (Y_move rfl rfl) ?_; clear hf; intro a hf
        refine sY hf hs rfl rfl rfl (Y_neq rfl rfl rfl) ?_; clear hf; intro a hf
        refine wpO_nil ?_
        refine wpL_cond hf rfl (fun hb52 => ?_) (fun hb52 => ?_)
        · have hm47 := bif_t hm47 hb52
          refine wpL_seq ?_
          refine wpL_region ?_
          refine sY hf hs rfl rfl rfl (Y_assign rfl rfl) ?_; clear hf; intro a hf
          refine wpO_nil ?_
          obtain rfl := Option.some.inj hm47
          try dsimp only at hm
          obtain rfl := Option.some.inj hm
          refine wpL_ret (Qb_ret (Ql_ret (Qb_ret (ret_tmp rfl hf rfl ?_))))
          exact ⟨_, rfl, rfl, hs⟩
        · have hm47 := bif_f hm47 hb52
          refine wpL_skip ?_
          refine wpL_seq ?_
          refine wpL_region ?_
          refine sY hf hs rfl rfl rfl (Y_move rfl rfl) ?_; clear hf; intro a hf
          refine sY hf hs rfl rfl rfl (Y_add rfl rfl rfl) ?_; clear hf; intro a hf
          refine sY hf hs rfl rfl rfl (Y_assign rfl rfl) ?_; clear hf; intro a hf
          refine wpO_nil ?_
          refine wpL_seq ?_
          refine wpL_seq ?_
          refine wpL_region ?_
          refine sY hf hs rfl rfl rfl (Y_move rfl rfl) ?_; clear hf; intro a hf
          refine sY hf hs rfl rfl rfl (Y_move rfl rfl) ?_; clear hf; intro a hf
          obtain ⟨q53, hi54, hm47⟩ := bind_some hm47
          obtain ⟨hi54a, hi54b, hi54q⟩ := idx_some hi54
          refine sY hf hs rfl rfl rfl (Y_index rfl rfl rfl el37 ti96 (Rd.isAt (h_p0_a_1.at hs) (recs_at (s := 4) GPlace.len hi54q (j := 0) rfl)) hi54a hi54b) ?_; clear hf; intro a hf
          refine sY hf hs rfl rfl rfl (Y_fieldAddrE rfl rfl fo96_1) ?_; clear hf; intro a hf
          refine sY hf hs rfl rfl rfl (Y_load_rd rfl rfl (fun w hs => h_p0_a_1.at hs) (recs_at (s := 4) GPlace.len hi54q (j := 1) rfl) ag2) ?_; clear hf; intro a hf
          refine sY hf hs rfl rfl rfl (Y_move rfl rfl) ?_; clear hf; intro a hf
          refine sY hf hs rfl rfl rfl (Y_neq rfl rfl rfl) ?_; clear hf; intro a hf
          refine wpO_nil ?_
          refine wpL_cond hf rfl (fun hb55 => ?_) (fun hb55 => ?_)
          · have hm47 := bif_t hm47 hb55
            refine wpL_seq ?_
            refine wpL_region ?_
            refine sY hf hs rfl rfl rfl (Y_assign rfl rfl) ?_; clear hf; intro a hf
            refine wpO_nil ?_
            obtain rfl := Option.some.inj hm47
            try dsimp only at hm
            obtain rfl := Option.some.inj hm
            refine wpL_ret (Qb_ret (Ql_ret (Qb_ret (ret_tmp rfl hf rfl ?_))))
            exact ⟨_, rfl, rfl, hs⟩
          · have hm47 := bif_f hm47 hb55
            refine wpL_skip ?_
            refine wpL_seq ?_
            refine wpL_region ?_
            refine sY hf hs rfl rfl rfl (Y_move rfl rfl) ?_; clear hf; intro a hf
            refine sY hf hs rfl rfl rfl (Y_add rfl rfl rfl) ?_; clear hf; intro a hf
            refine sY hf hs rfl rfl rfl (Y_assign rfl rfl) ?_; clear hf; intro a hf
            refine wpO_nil ?_
            refine wpL_seq ?_
            refine wpL_seq ?_
            refine wpL_region ?_
            refine sY hf hs rfl rfl rfl (Y_move rfl rfl) ?_; clear hf; intro a hf
            refine sY hf hs rfl rfl rfl (Y_move rfl rfl) ?_; clear hf; intro a hf
            obtain ⟨q56, hi57, hm47⟩ := bind_some hm47
            obtain ⟨hi57a, hi57b, hi57q⟩ := idx_some hi57
            refine sY hf hs rfl rfl rfl (Y_index rfl rfl rfl el37 ti96 (Rd.isAt (h_p0_a_1.at hs) (recs_at (s := 4) GPlace.len hi57q (j := 0) rfl)) hi57a hi57b) ?_; clear hf; intro a hf
            refine sY hf hs rfl rfl rfl (Y_fieldAddrE rfl rfl fo96_2) ?_; clear hf; intro a hf
            refine sY hf hs rfl rfl rfl (Y_load_rd rfl rfl (fun w hs => h_p0_a_1.at hs) (recs_at (s := 4) GPlace.len hi57q (j := 2) rfl) ag2) ?_; clear hf; intro a hf
            refine sY hf hs rfl rfl rfl (Y_move rfl rfl) ?_; clear hf; intro a hf
            refine sY hf hs rfl rfl rfl (Y_neq rfl rfl rfl) ?_; clear hf; intro a hf
            refine wpO_nil ?_
            refine wpL_cond hf rfl (fun hb58 => ?_) (fun hb58 => ?_)
            · have hm47 := bif_t hm47 hb58
              refine wpL_seq ?_
              refine wpL_region ?_
              refine sY hf hs rfl rfl rfl (Y_assign rfl rfl) ?_; clear hf; intro a hf
              refine wpO_nil ?_
              obtain rfl := Option.some.inj hm47
              try dsimp only at hm
              obtain rfl := Option.some.inj hm
              refine wpL_ret (Qb_ret (Ql_ret (Qb_ret (ret_tmp rfl hf rfl ?_))))
              exact ⟨_, rfl, rfl, hs⟩
            · have hm47 := bif_f hm47 hb58
              refine wpL_skip ?_
              refine wpL_seq ?_
              refine wpL_region ?_
              refine sY hf hs rfl rfl rfl (Y_move rfl rfl) ?_; clear hf; intro a hf
              refine sY hf hs rfl rfl rfl (Y_add rfl rfl rfl) ?_; clear hf; intro a hf
              refine sY hf hs rfl rfl rfl (Y_assign rfl rfl) ?_; clear hf; intro a hf
              refine wpO_nil ?_
              refine wpL_seq ?_
              refine wpL_seq ?_
              refine wpL_region ?_
              refine sY hf hs rfl rfl rfl (Y_move rfl rfl) ?_; clear hf; intro a hf
              refine sY hf hs rfl rfl rfl (Y_move rfl rfl) ?_; clear hf; intro a hf
              obtain ⟨q59, hi60, hm47⟩ := bind_some hm47
              obtain ⟨hi60a, hi60b, hi60q⟩ := idx_some hi60
              refine sY hf hs rfl rfl rfl (Y_index rfl rfl rfl el37 ti96 (Rd.isAt (h_p0_a_1.at hs) (recs_at (s := 4) GPlace.len hi60q (j := 0) rfl)) hi60a hi60b) ?_; clear hf; intro a hf
              refine sY hf hs rfl rfl rfl (Y_fieldAddrE rfl rfl fo96_3) ?_; clear hf; intro a hf
              refine sY hf hs rfl rfl rfl (Y_load_rd rfl rfl (fun w hs => h_p0_a_1.at hs) (recs_at (s := 4) GPlace.len hi60q (j := 3) rfl) ag2) ?_; clear hf; intro a hf
              refine sY hf hs rfl rfl rfl (Y_move rfl rfl) ?_; clear hf; intro a hf
              refine sY hf hs rfl rfl rfl (Y_neq rfl rfl rfl) ?_; clear hf; intro a hf
              refine wpO_nil ?_
              refine wpL_cond hf rfl (fun hb61 => ?_) (fun hb61 => ?_)
              · have hm47 := bif_t hm47 hb61
                refine wpL_seq ?_
                refine wpL_region ?_
                refine sY hf hs rfl rfl rfl (Y_assign rfl rfl) ?_; clear hf; intro a hf
                refine wpO_nil ?_
                obtain rfl := Option.some.inj hm47
                try dsimp only at hm
                obtain rfl := Option.some.inj hm
                refine wpL_ret (Qb_ret (Ql_ret (Qb_ret (ret_tmp rfl hf rfl ?_))))
                exact ⟨_, rfl, rfl, hs⟩
              · have hm47 := bif_f hm47 hb61
                refine wpL_skip ?_
                refine wpL_region ?_
                refine sY hf hs rfl rfl rfl (Y_move rfl rfl) ?_; clear hf; intro a hf
                refine sY hf hs rfl rfl rfl (Y_add rfl rfl rfl) ?_; clear hf; intro a hf
                refine sY hf hs rfl rfl rfl (Y_assign rfl rfl) ?_; clear hf; intro a hf
                refine wpO_nil ?_
                refine wpL_nil (Qb_normal ?_)
                refine wpL_region ?_
                refine sY hf hs rfl rfl rfl (Y_move rfl rfl) ?_; clear hf; intro a hf
                refine sY hf hs rfl rfl rfl (Y_add rfl rfl rfl) ?_; clear hf; intro a hf
                refine sY hf hs rfl rfl rfl (Y_assign rfl rfl) ?_; clear hf; intro a hf
                refine wpO_nil ?_
                refine wpL_nil (Ql_normal ?_)
                exact ⟨(IntKind.i64.wrap ((IntKind.i64.wrap ((IntKind.i64.wrap ((IntKind.i64.wrap (x29 + 1)) + 1)) + 1)) + 1)), (IntKind.i64.wrap (x30 + 1)), hm47, (FrD.pick (FrD.pick (FrD.pick hf.none hf rfl) hf rfl) hf rfl), hs⟩
      · have hm47 := bif_f hm47 hb49
        refine wpL_exit (Ql_exit (Qb_exit ?_))
        exact ⟨x29, Option.some.inj hm47, (FrD.pick hf.none hf rfl), hs⟩
  · rintro a w ⟨x44, hr_, hf, hs⟩
    subst hr_
    try dsimp only at hm
    refine wpL_seq ?_
    refine wpL_region ?_
    refine sY hf hs rfl rfl rfl (Y_move rfl rfl) ?_; clear hf; intro a hf
    refine sY hf hs rfl rfl rfl (Y_assign rfl rfl) ?_; clear hf; intro a hf
    refine wpO_nil ?_
    obtain rfl := Option.some.inj hm
    refine wpL_ret (ret_tmp rfl hf rfl ?_)
    exact ⟨_, rfl, rfl, hs⟩

set_option maxRecDepth 100000 in
theorem laws_heldEventGraph_ok (F : Nat) (p0_a : GEventGraph) (A_p0_a_1 : Option Addr) (n_p0_a_1 c_p0_a_1 : Nat) (hn_p0_a_1 : n_p0_a_1 = p0_a.Places.length) (p1_k : Int) (r : Int) (W : World) (hm : laws_heldEventGraph F p0_a p1_k = some r) (h_p0_a_1 : Rd W A_p0_a_1 ((recs GPlace.cells) p0_a.Places)) :
    Calls Try.prog 30 [.agg #[.int .i64 p0_a.Events, .slice A_p0_a_1 n_p0_a_1 c_p0_a_1], .int .i64 p1_k].toArray W fun e w' => ∃ v, e = .returned v ∧ v = .int .i64 r ∧ St [] W w' [] := by
  subst hn_p0_a_1
  unfold laws_heldEventGraph at hm
  refine Calls.enter (N := 12) Try.func30 rfl rfl rfl (fun a hf => ?_)
  have hs := St.start W
  obtain ⟨w, hw_⟩ : ∃ w, w = W := ⟨W, rfl⟩
  clear hw_ w
  refine wpL_seq ?_
  refine wpL_region ?_
  refine sBox hf hs rfl rfl rfl rfl rfl (cs := [.int .i64 p0_a.Events, .slice A_p0_a_1 p0_a.Places.length c_p0_a_1]) rfl ?_; clear hf hs; intro a w b1 hs hf
  have hs : St [] W w [.blk b1 39 [.int .i64 p0_a.Events, .slice A_p0_a_1 p0_a.Places.length c_p0_a_1]] := hs
  refine sY hf hs rfl rfl rfl (Y_assign rfl rfl) ?_; clear hf; intro a hf
  refine wpO_nil ?_
  refine wpL_seq ?_
  refine wpL_region ?_
  refine sY hf hs rfl rfl rfl (Y_fieldAddr rfl rfl fo39_1) ?_; clear hf; intro a hf
  refine sY hf hs rfl rfl rfl (Y_load_blk rfl rfl (i := 0) rfl rfl ag37) ?_; clear hf; intro a hf
  refine sY hf hs rfl rfl rfl (Y_move rfl rfl) ?_; clear hf; intro a hf
  obtain ⟨r2, hc3, hm⟩ := bind_some hm
  refine sCall hf rfl rfl rfl rfl (cap := []) rfl rfl en86 (laws_heldPlaceS_ok F p0_a.Places A_p0_a_1 p0_a.Places.length c_p0_a_1 rfl p1_k _ _ hc3 (h_p0_a_1.at hs)) ?_; clear hf
  rintro _ w ⟨rfl, hs1⟩ a hf
  have hs : St [] W w [.blk b1 39 [.int .i64 p0_a.Events, .slice A_p0_a_1 p0_a.Places.length c_p0_a_1]] := hs.ext hs1.below
  clear hs1
  refine sY hf hs rfl rfl rfl (Y_assign rfl rfl) ?_; clear hf; intro a hf
  refine wpO_nil ?_
  refine wpL_seq ?_
  refine wpL_seq ?_
  refine wpL_region ?_
  refine sY hf hs rfl rfl rfl (Y_move rfl rfl) ?_; clear hf; intro a hf
  refine sY hf hs rfl rfl rfl (Y_lss rfl rfl rfl) ?_; clear hf; intro a hf
  refine wpO_nil ?_
  refine wpL_cond hf rfl (fun hb4 => ?_) (fun hb4 => ?_)
  · have hm := bif_t hm hb4
    refine wpL_seq ?_
    refine wpL_region ?_
    refine sY hf hs rfl rfl rfl (Y_assign rfl rfl) ?_; clear hf; intro a hf
    refine wpO_nil ?_
    obtain rfl := Option.some.inj hm
    refine wpL_ret (ret_tmp rfl hf rfl ?_)
    exact ⟨_, rfl, rfl, hs.sel [] (by decide)⟩
  · have hm := bif_f hm hb4
    refine wpL_skip ?_
    refine wpL_seq ?_
    refine wpL_region ?_
    refine sY hf hs rfl rfl rfl (Y_move rfl rfl) ?_; clear hf; intro a hf
    refine sY hf hs rfl rfl rfl (Y_assign rfl rfl) ?_; clear hf; intro a hf
    refine wpO_nil ?_
    obtain rfl := Option.some.inj hm
    refine wpL_ret (ret_tmp rfl hf rfl ?_)
    exact ⟨_, rfl, rfl, hs.sel [] (by decide)⟩

set_option maxHeartbeats 2000000 in
set_option maxRecDepth 100000 in
theorem laws_FnExactPartOfGraph_ok (F : Nat) (p0 : LEventGraph) (A_p0_1 : Option Addr) (n_p0_1 c_p0_1 : Nat) (hn_p0_1 : n_p0_1 = p0.Places.length) (p1 : List Int) (A_p1_1 : Option Addr) (n_p1_1 c_p1_1 : Nat) (hn_p1_1 : n_p1_1 = p1.length) (r : Bool) (W : World) (hm : laws_FnExactPartOfGraph F p0 p1 = some r) (h_p0_1 : Rd W A_p0_1 ((recs LPlace.cells) p0.Places)) (h_p1_1 : Rd W A_p1_1 (ints p1)) :
    Calls Try.prog 5 [.agg #[.int .i64 p0.Events, .slice A_p0_1 n_p0_1 c_p0_1], .slice A_p1_1 n_p1_1 c_p1_1].toArray W fun e w' => ∃ v, e = .returned v ∧ v = .bool r ∧ St [] W w' [] := by
  subst hn_p0_1
  subst hn_p1_1
  unfold laws_FnExactPartOfGraph at hm
  refine Calls.enter (N := 117) Try.func5 rfl rfl rfl (fun a hf => ?_)
  have hs := St.start W
  obtain ⟨w, hw_⟩ : ∃ w, w = W := ⟨W, rfl⟩
  clear hw_ w
  refine wpL_seq ?_
  refine wpL_region ?_
  refine sBox hf hs rfl rfl rfl rfl rfl (cs := [.int .i64 p0.Events, .slice A_p0_1 p0.Places.length c_p0_1]) rfl ?_; clear hf hs; intro a w b1 hs hf
  have hs : St [] W w [.blk b1 35 [.int .i64 p0.Events, .slice A_p0_1 p0.Places.length c_p0_1]] := hs
  refine sY hf hs rfl rfl rfl (Y_assign rfl rfl) ?_; clear hf; intro a hf
  refine wpO_nil ?_
  refine wpL_seq ?_
  refine wpL_seq ?_
  refine wpL_region ?_
  refine sY hf hs rfl rfl rfl (Y_move rfl rfl) ?_; clear hf; intro a hf
  refine sY hf hs rfl rfl rfl (Y_lenH rfl rfl el23 rfl) ?_; clear hf; intro a hf
  refine sY hf hs rfl rfl rfl (Y_gtr rfl rfl rfl) ?_; clear hf; intro a hf
  refine wpO_nil ?_
  refine wpL_cond hf rfl (fun hb2 => ?_) (fun hb2 => ?_)
  · have hm := bif_t hm hb2
    refine wpL_seq ?_
    refine wpL_region ?_
    refine sY hf hs rfl rfl rfl (Y_assign rfl rfl) ?_; clear hf; intro a hf
    refine wpO_nil ?_
    obtain rfl := Option.some.inj hm
    refine wpL_ret (ret_tmp rfl hf rfl ?_)
    exact ⟨_, rfl, rfl, hs.sel [] (by decide)⟩
  · have hm := bif_f hm hb2
    refine wpL_skip ?_
    refine wpL_seq ?_
    refine wpL_region ?_
    refine sY hf hs rfl rfl rfl (Y_assign rfl rfl) ?_; clear hf; intro a hf
    refine wpO_nil ?_
    refine wpL_seq ?_
    refine wpL_region ?_
    refine sY hf hs rfl rfl rfl (Y_load_blkS rfl rfl (i := 0) rfl ag35 ti35 rfl) ?_; clear hf; intro a hf
    refine sY hf hs rfl rfl rfl (Y_move rfl rfl) ?_; clear hf; intro a hf
    obtain ⟨r3, hc4, hm⟩ := bind_some hm
    refine sCall hf rfl rfl rfl rfl (cap := []) rfl rfl en24 (laws_szEventGraph_ok F p0 A_p0_1 p0.Places.length c_p0_1 rfl 1048576 _ _ hc4 (h_p0_1.at hs)) ?_; clear hf
    rintro _ w ⟨rfl, hs1⟩ a hf
    have hs : St [] W w [.blk b1 35 [.int .i64 p0.Events, .slice A_p0_1 p0.Places.length c_p0_1]] := hs.ext hs1.below
    clear hs1
    refine sY hf hs rfl rfl rfl (Y_assign rfl rfl) ?_; clear hf; intro a hf
    refine wpO_nil ?_
    refine wpL_seq ?_
    refine wpL_seq ?_
    refine wpL_region ?_
    refine sY hf hs rfl rfl rfl (Y_move rfl rfl) ?_; clear hf; intro a hf
    refine sY hf hs rfl rfl rfl (Y_lss rfl rfl rfl) ?_; clear hf; intro a hf
    refine wpO_nil ?_
    refine wpL_cond hf rfl (fun hb5 => ?_) (fun hb5 => ?_)
    · have hm := bif_t hm hb5
      refine wpL_seq ?_
      refine wpL_region ?_
      refine sY hf hs rfl rfl rfl (Y_assign rfl rfl) ?_; clear hf; intro a hf
      refine wpO_nil ?_
      obtain rfl := Option.some.inj hm
      refine wpL_ret (ret_tmp rfl hf rfl ?_)
      exact ⟨_, rfl, rfl, hs.sel [] (by decide)⟩
    · have hm := bif_f hm hb5
      refine wpL_skip ?_
      refine wpL_seq ?_
      refine wpL_region ?_
      refine sY hf hs rfl rfl rfl (Y_load_blkS rfl rfl (i := 0) rfl ag35 ti35 rfl) ?_; clear hf; intro a hf
      obtain ⟨r6, hc7, hm⟩ := bind_some hm
      refine sCall hf rfl rfl rfl rfl (cap := []) rfl rfl en26 (laws_toEventGraph_ok F p0 A_p0_1 p0.Places.length c_p0_1 rfl _ _ hc7 (h_p0_1.at hs)) ?_; clear hf
      rintro _ w ⟨A8, n9, c10, rfl, hn11, hs1⟩ a hf
      have hs : St [] W w [.blk b1 35 [.int .i64 p0.Events, .slice A_p0_1 p0.Places.length c_p0_1], .row A8 n9 c10 96 4 ((recs GPlace.cells) r6.Places)] := hs.join hs1
      clear hs1
      refine sY hf hs rfl rfl rfl (Y_move rfl rfl) ?_; clear hf; intro a hf
      obtain ⟨r12, hc13, hm⟩ := bind_some hm
      refine sCall hf rfl rfl rfl rfl (cap := []) rfl rfl en17 (laws_toInt64S_ok F p1 A_p1_1 p1.length c_p1_1 rfl _ _ hc13 (h_p1_1.at hs)) ?_; clear hf
      rintro _ w ⟨A14, n15, c16, rfl, hn17, hs1⟩ a hf
      have hs : St [] W w [.blk b1 35 [.int .i64 p0.Events, .slice A_p0_1 p0.Places.length c_p0_1], .row A8 n9 c10 96 4 ((recs GPlace.cells) r6.Places), .row A14 n15 c16 2 1 (ints r12)] := hs.join hs1
      clear hs1
      obtain ⟨r18, hc19, hm⟩ := bind_some hm
      refine sCall hf rfl rfl rfl rfl (cap := []) rfl rfl en31 (spec_PartOfGraph_ok F r6 A8 n9 c10 hn11 r12 A14 n15 c16 hn17 _ _ hc19 (hs.rd (i := 1) rfl) (hs.rd (i := 2) rfl)) ?_; clear hf
      rintro _ w ⟨A20, n21, c22, rfl, hn23, hs1⟩ a hf
      have hs : St [] W w [.blk b1 35 [.int .i64 p0.Events, .slice A_p0_1 p0.Places.length c_p0_1], .row A8 n9 c10 96 4 ((recs GPlace.cells) r6.Places), .row A14 n15 c16 2 1 (ints r12), .row A20 n21 c22 96 4 ((recs GPlace.cells) r18.1.Places)] := hs.join hs1
      clear hs1
      refine sY hf hs rfl rfl rfl (Y_move rfl rfl) ?_; clear hf; intro a hf
      refine sY hf hs rfl rfl rfl (Y_extract rfl rfl rfl) ?_; clear hf; intro a hf
      refine sY hf hs rfl rfl rfl (Y_extract rfl rfl rfl) ?_; clear hf; intro a hf
      refine sAlloc hf hs rfl rfl rfl rfl ti39 ?_; clear hf hs; intro a w b24 hs hf
      have hs : St [] W w [.blk b1 35 [.int .i64 p0.Events, .slice A_p0_1 p0.Places.length c_p0_1], .row A8 n9 c10 96 4 ((recs GPlace.cells) r6.Places), .row A14 n15 c16 2 1 (ints r12), .row A20 n21 c22 96 4 ((recs GPlace.cells) r18.1.Places), .blk b24 39 [.int .i64 0, .slice none 0 0]] := hs
      refine sStore (i := 4) (us := [.int .i64 r18.1.Events, .slice A20 n21 c22]) hf hs rfl rfl rfl rfl rfl rfl ti39 rfl rfl rfl (Nat.le_of_ble_eq_true rfl) rfl ?_; clear hs; intro w hs
      have hs : St [] W w [.blk b1 35 [.int .i64 p0.Events, .slice A_p0_1 p0.Places.length c_p0_1], .row A8 n9 c10 96 4 ((recs GPlace.cells) r6.Places), .row A14 n15 c16 2 1 (ints r12), .row A20 n21 c22 96 4 ((recs GPlace.cells) r18.1.Places), .blk b24 39 [.int .i64 r18.1.Events, .slice A20 n21 c22]] := hs
      refine sY hf hs rfl rfl rfl (Y_assign rfl rfl) ?_; clear hf; intro a hf
      refine wpO_nil ?_
      refine wpL_seq ?_
      refine wpL_region ?_
      refine sY hf hs rfl rfl rfl (Y_load_blkS rfl rfl (i := 0) rfl ag35 ti35 rfl) ?_; clear hf; intro a hf
      obtain ⟨r25, hc26, hm⟩ := bind_some hm
      refine sCall hf rfl rfl rfl rfl (cap := []) rfl rfl en26 (laws_toEventGraph_ok F p0 A_p0_1 p0.Places.length c_p0_1 rfl _ _ hc26 (h_p0_1.at hs)) ?_; clear hf
      rintro _ w ⟨A27, n28, c29, rfl, hn30, hs1⟩ a hf
      have hs : St [] W w [.blk b1 35 [.int .i64 p0.Events, .slice A_p0_1 p0.Places.length c_p0_1], .row A8 n9 c10 96 4 ((recs GPlace.cells) r6.Places), .row A14 n15 c16 2 1 (ints r12), .row A20 n21 c22 96 4 ((recs GPlace.cells) r18.1.Places), .blk b24 39 [.int .i64 r18.1.Events, .slice A20 n21 c22], .row A27 n28 c29 96 4 ((recs GPlace.cells) r25.Places)] := hs.join hs1
      clear hs1
      refine sAlloc hf hs rfl rfl rfl rfl ti39 ?_; clear hf hs; intro a w b31 hs hf
      have hs : St [] W w [.blk b1 35 [.int .i64 p0.Events, .slice A_p0_1 p0.Places.length c_p0_1], .row A8 n9 c10 96 4 ((recs GPlace.cells) r6.Places), .row A14 n15 c16 2 1 (ints r12), .row A20 n21 c22 96 4 ((recs GPlace.cells) r18.1.Places), .blk b24 39 [.int .i64 r18.1.Events, .slice A20 n21 c22], .row A27 n28 c29 96 4 ((recs GPlace.cells) r25.Places), .blk b31 39 [.int .i64 0, .slice none 0 0]] := hs
      refine sStore (i := 6) (us := [.int .i64 r25.Events, .slice A27 n28 c29]) hf hs rfl rfl rfl rfl rfl rfl ti39 rfl rfl rfl (Nat.le_of_ble_eq_true rfl) rfl ?_; clear hs; intro w hs
      have hs : St [] W w [.blk b1 35 [.int .i64 p0.Events, .slice A_p0_1 p0.Places.length c_p0_1], .row A8 n9 c10 96 4 ((recs GPlace.cells) r6.Places), .row A14 n15 c16 2 1 (ints r12), .row A20 n21 c22 96 4 ((recs GPlace.cells) r18.1.Places), .blk b24 39 [.int .i64 r18.1.Events, .slice A20 n21 c22], .row A27 n28 c29 96 4 ((recs GPlace.cells) r25.Places), .blk b31 39 [.int .i64 r25.Events, .slice A27 n28 c29]] := hs
      refine wpO_nil ?_
      refine wpL_seq ?_
      refine wpL_region ?_
      refine sY hf hs rfl rfl rfl (Y_move rfl rfl) ?_; clear hf; intro a hf
      obtain ⟨r32, hc33, hm⟩ := bind_some hm
      refine sCall hf rfl rfl rfl rfl (cap := []) rfl rfl en17 (laws_toInt64S_ok F p1 A_p1_1 p1.length c_p1_1 rfl _ _ hc33 (h_p1_1.at hs)) ?_; clear hf
      rintro _ w ⟨A34, n35, c36, rfl, hn37, hs1⟩ a hf
      have hs : St [] W w [.blk b1 35 [.int .i64 p0.Events, .slice A_p0_1 p0.Places.length c_p0_1], .row A8 n9 c10 96 4 ((recs GPlace.cells) r6.Places), .row A14 n15 c16 2 1 (ints r12), .row A20 n21 c22 96 4 ((recs GPlace.cells) r18.1.Places), .blk b24 39 [.int .i64 r18.1.Events, .slice A20 n21 c22], .row A27 n28 c29 96 4 ((recs GPlace.cells) r25.Places), .blk b31 39 [.int .i64 r25.Events, .slice A27 n28 c29], .row A34 n35 c36 2 1 (ints r32)] := hs.join hs1
      clear hs1
      refine sY hf hs rfl rfl rfl (Y_assign rfl rfl) ?_; clear hf; intro a hf
      refine wpO_nil ?_
      refine wpL_seq ?_
      refine wpL_region ?_
      refine sY hf hs rfl rfl rfl (Y_load_blkS rfl rfl (i := 6) rfl ag39 ti39 rfl) ?_; clear hf; intro a hf
      refine sY hf hs rfl rfl rfl (Y_move rfl rfl) ?_; clear hf; intro a hf
      obtain ⟨r38, hc39, hm⟩ := bind_some hm
      refine sCall hf rfl rfl rfl rfl (cap := []) rfl rfl en32 (impl_PartOfGraph_ok F r25 A27 n28 c29 hn30 r32 A34 n35 c36 hn37 _ _ hc39 (hs.rd (i := 5) rfl) (hs.rd (i := 7) rfl)) ?_; clear hf
      rintro _ w ⟨A40, n41, c42, rfl, hn43, hs1⟩ a hf
      have hs : St [] W w [.blk b1 35 [.int .i64 p0.Events, .slice A_p0_1 p0.Places.length c_p0_1], .row A8 n9 c10 96 4 ((recs GPlace.cells) r6.Places), .row A14 n15 c16 2 1 (ints r12), .row A20 n21 c22 96 4 ((recs GPlace.cells) r18.1.Places), .blk b24 39 [.int .i64 r18.1.Events, .slice A20 n21 c22], .row A27 n28 c29 96 4 ((recs GPlace.cells) r25.Places), .blk b31 39 [.int .i64 r25.Events, .slice A27 n28 c29], .row A34 n35 c36 2 1 (ints r32), .row A40 n41 c42 96 4 ((recs GPlace.cells) r38.1.Places)] := hs.join hs1
      clear hs1
      refine sY hf hs rfl rfl rfl (Y_move rfl rfl) ?_; clear hf; intro a hf
      refine sY hf hs rfl rfl rfl (Y_extract rfl rfl rfl) ?_; clear hf; intro a hf
      refine sY hf hs rfl rfl rfl (Y_extract rfl rfl rfl) ?_; clear hf; intro a hf
      refine sAlloc hf hs rfl rfl rfl rfl ti39 ?_; clear hf hs; intro a w b44 hs hf
      have hs : St [] W w [.blk b1 35 [.int .i64 p0.Events, .slice A_p0_1 p0.Places.length c_p0_1], .row A8 n9 c10 96 4 ((recs GPlace.cells) r6.Places), .row A14 n15 c16 2 1 (ints r12), .row A20 n21 c22 96 4 ((recs GPlace.cells) r18.1.Places), .blk b24 39 [.int .i64 r18.1.Events, .slice A20 n21 c22], .row A27 n28 c29 96 4 ((recs GPlace.cells) r25.Places), .blk b31 39 [.int .i64 r25.Events, .slice A27 n28 c29], .row A34 n35 c36 2 1 (ints r32), .row A40 n41 c42 96 4 ((recs GPlace.cells) r38.1.Places), .blk b44 39 [.int .i64 0, .slice none 0 0]] := hs
      refine sStore (i := 9) (us := [.int .i64 r38.1.Events, .slice A40 n41 c42]) hf hs rfl rfl rfl rfl rfl rfl ti39 rfl rfl rfl (Nat.le_of_ble_eq_true rfl) rfl ?_; clear hs; intro w hs
      have hs : St [] W w [.blk b1 35 [.int .i64 p0.Events, .slice A_p0_1 p0.Places.length c_p0_1], .row A8 n9 c10 96 4 ((recs GPlace.cells) r6.Places), .row A14 n15 c16 2 1 (ints r12), .row A20 n21 c22 96 4 ((recs GPlace.cells) r18.1.Places), .blk b24 39 [.int .i64 r18.1.Events, .slice A20 n21 c22], .row A27 n28 c29 96 4 ((recs GPlace.cells) r25.Places), .blk b31 39 [.int .i64 r25.Events, .slice A27 n28 c29], .row A34 n35 c36 2 1 (ints r32), .row A40 n41 c42 96 4 ((recs GPlace.cells) r38.1.Places), .blk b44 39 [.int .i64 r38.1.Events, .slice A40 n41 c42]] := hs
      refine sY hf hs rfl rfl rfl (Y_assign rfl rfl) ?_; clear hf; intro a hf
      refine wpO_nil ?_
      refine wpL_seq ?_
      refine wpL_seq ?_
      obtain ⟨r49, hj50, hm⟩ := bind_some hm
      refine wpL_cut (fun a w => ∃ b48 : Bool, b48 = r49 ∧ Fr a 117 [(1, .slice A_p1_1 p1.length c_p1_1), (2, .pointer (some ⟨b1, 0, none⟩)), (6, .pointer (some ⟨b24, 0, none⟩)), (7, .int .i64 r18.2), (8, .pointer (some ⟨b31, 0, none⟩)), (9, .slice A34 n35 c36), (10, .pointer (some ⟨b44, 0, none⟩)), (11, .int .i64 r38.2), (51, .bool b48)] ∧ St [] W w [.blk b1 35 [.int .i64 p0.Events, .slice A_p0_1 p0.Places.length c_p0_1], .blk b24 39 [.int .i64 r18.1.Events, .slice A20 n21 c22], .row A20 n21 c22 96 4 ((recs GPlace.cells) r18.1.Places), .blk b31 39 [.int .i64 r25.Events, .slice A27 n28 c29], .row A27 n28 c29 96 4 ((recs GPlace.cells) r25.Places), .row A34 n35 c36 2 1 (ints r32), .blk b44 39 [.int .i64 r38.1.Events, .slice A40 n41 c42], .row A40 n41 c42 96 4 ((recs GPlace.cells) r38.1.Places)]) ?_ ?_
      · refine wpL_region ?_
        refine sY hf hs rfl rfl rfl (Y_load_blkS rfl rfl (i := 9) rfl ag39 ti39 rfl) ?_; clear hf; intro a hf
        refine sY hf hs rfl rfl rfl (Y_load_blkS rfl rfl (i := 4) rfl ag39 ti39 rfl) ?_; clear hf; intro a hf
        obtain ⟨r51, hc52, hj50⟩ := bind_some hj50
        refine sCall hf rfl rfl rfl rfl (cap := []) rfl rfl en28 (laws_eqEventGraph_ok F (GEventGraph.mk r38.1.Events r38.1.Places) A40 n41 c42 hn43 (GEventGraph.mk r18.1.Events r18.1.Places) A20 n21 c22 hn23 _ _ hc52 (hs.rd (i := 8) rfl) (hs.rd (i := 3) rfl)) ?_; clear hf
        rintro _ w ⟨rfl, hs1⟩ a hf
        have hs : St [] W w [.blk b1 35 [.int .i64 p0.Events, .slice A_p0_1 p0.Places.length c_p0_1], .row A8 n9 c10 96 4 ((recs GPlace.cells) r6.Places), .row A14 n15 c16 2 1 (ints r12), .row A20 n21 c22 96 4 ((recs GPlace.cells) r18.1.Places), .blk b24 39 [.int .i64 r18.1.Events, .slice A20 n21 c22], .row A27 n28 c29 96 4 ((recs GPlace.cells) r25.Places), .blk b31 39 [.int .i64 r25.Events, .slice A27 n28 c29], .row A34 n35 c36 2 1 (ints r32), .row A40 n41 c42 96 4 ((recs GPlace.cells) r38.1.Places), .blk b44 39 [.int .i64 r38.1.Events, .slice A40 n41 c42]] := hs.ext hs1.below
        clear hs1
        refine sY hf hs rfl rfl rfl (Y_not rfl rfl) ?_; clear hf; intro a hf
        refine sY hf hs rfl rfl rfl (Y_move rfl rfl) ?_; clear hf; intro a hf
        refine bsplit (!r51) (fun hb53 => ?_) (fun hb53 => ?_)
        · have hj50 := bif_t hj50 hb53
          refine sNo hf rfl rfl rfl (congrArg (fun b => some (Value.bool b)) hb53) rfl rfl rfl ?_; clear hf; intro a hf
          refine sNo hf rfl rfl rfl (congrArg (fun b => some (Value.bool b)) hb53) rfl rfl rfl ?_; clear hf; intro a hf
          refine sNo hf rfl rfl rfl (congrArg (fun b => some (Value.bool b)) hb53) rfl rfl rfl ?_; clear hf; intro a hf
          refine sY hf hs rfl rfl rfl (Y_pickT rfl (congrArg (fun b => some (Value.bool b)) hb53) rfl) ?_; clear hf; intro a hf
          refine wpO_nil ?_
          refine wpL_nil (then_normal ?_)
          exact ⟨true, Option.some.inj hj50, (FrD.pick (FrD.pick (FrD.pick (FrD.pick (FrD.pick (FrD.pick (FrD.pick (FrD.pick (FrD.pick hf.none hf rfl) hf rfl) hf rfl) hf rfl) hf rfl) hf rfl) hf rfl) hf rfl) hf rfl), hs.sel [0, 4, 3, 6, 5, 7, 9, 8] (by decide)⟩
        · have hj50 := bif_f hj50 hb53
          refine sYg hf hs rfl rfl rfl (congrArg (fun b => some (Value.bool b)) hb53) rfl rfl rfl (Y_move rfl rfl) ?_; clear hf; intro a hf
          refine sYg hf hs rfl rfl rfl (congrArg (fun b => some (Value.bool b)) hb53) rfl rfl rfl (Y_move rfl rfl) ?_; clear hf; intro a hf
          refine sYg hf hs rfl rfl rfl (congrArg (fun b => some (Value.bool b)) hb53) rfl rfl rfl (Y_neq rfl rfl rfl) ?_; clear hf; intro a hf
          refine sY hf hs rfl rfl rfl (Y_pickF rfl (congrArg (fun b => some (Value.bool b)) hb53) rfl) ?_; clear hf; intro a hf
          refine wpO_nil ?_
          refine wpL_nil (then_normal ?_)
          exact ⟨(r38.2 != r18.2), Option.some.inj hj50, (FrD.pick (FrD.pick (FrD.pick (FrD.pick (FrD.pick (FrD.pick (FrD.pick (FrD.pick (FrD.pick hf.none hf rfl) hf rfl) hf rfl) hf rfl) hf rfl) hf rfl) hf rfl) hf rfl) hf rfl), hs.sel [0, 4, 3, 6, 5, 7, 9, 8] (by decide)⟩
      · rintro a w ⟨b48, hr_, hf, hs⟩
        subst hr_
        try dsimp only at hm
        refine wpL_cond hf rfl (fun hb54 => ?_) (fun hb54 => ?_)
        · have hm := bif_t hm hb54
          refine wpL_seq ?_
          refine wpL_region ?_
          refine sY hf hs rfl rfl rfl (Y_assign rfl rfl) ?_; clear hf; intro a hf
          refine wpO_nil ?_
          obtain rfl := Option.some.inj hm
          refine wpL_ret (ret_tmp rfl hf rfl ?_)
          exact ⟨_, rfl, rfl, hs.sel [] (by decide)⟩
        · have hm := bif_f hm hb54
          refine wpL_skip ?_
          refine wpL_seq ?_
          refine wpL_seq ?_
          refine wpL_drawM [.blk b1 35 [.int .i64 p0.Events, .slice A_p0_1 p0.Places.length c_p0_1], .blk b24 39 [.int .i64 r18.1.Events, .slice A20 n21 c22], .row A20 n21 c22 96 4 ((recs GPlace.cells) r18.1.Places), .blk b31 39 [.int .i64 r25.Events, .slice A27 n28 c29], .row A27 n28 c29 96 4 ((recs GPlace.cells) r25.Places), .row A34 n35 c36 2 1 (ints r32), .blk b44 39 [.int .i64 r38.1.Events, .slice A40 n41 c42], .row A40 n41 c42 96 4 ((recs GPlace.cells) r38.1.Places)] [3] (by kernel_rfl) hs ?_; clear hs; intro w hs
          have hs0 : St [] W w [.blk b1 35 [.int .i64 p0.Events, .slice A_p0_1 p0.Places.length c_p0_1], .blk b24 39 [.int .i64 r18.1.Events, .slice A20 n21 c22], .row A20 n21 c22 96 4 ((recs GPlace.cells) r18.1.Places), .blk b31 39 [.int .i64 r25.Events, .slice A27 n28 c29], .row A27 n28 c29 96 4 ((recs GPlace.cells) r25.Places), .row A34 n35 c36 2 1 (ints r32), .blk b44 39 [.int .i64 r38.1.Events, .slice A40 n41 c42], .row A40 n41 c42 96 4 ((recs GPlace.cells) r38.1.Places)] := hs
          refine mY (i := 0) [[]] rfl (by kernel_rfl) (by kernel_rfl) hf hs0 rfl rfl rfl (Y_load_blkS rfl rfl (i := 3) rfl ag39 ti39 rfl) ?_; clear hf; intro a hf
          refine mY (i := 1) [[2]] rfl (by kernel_rfl) (by kernel_rfl) hf hs0 rfl rfl rfl (Y_load_blkS rfl rfl (i := 0) rfl ag35 ti35 rfl) ?_; clear hf; intro a hf
          refine mRun (i := 2) rfl (by kernel_rfl) ?_
          obtain ⟨r63, hc64, hm⟩ := bind_some hm
          refine sCall hf rfl rfl rfl rfl (cap := []) rfl rfl en26 (laws_toEventGraph_ok F p0 A_p0_1 p0.Places.length c_p0_1 rfl _ _ hc64 (h_p0_1.at hs)) ?_; clear hf
          rintro _ w ⟨A65, n66, c67, rfl, hn68, hs1⟩ a hf
          have hs : St [] W w [.blk b1 35 [.int .i64 p0.Events, .slice A_p0_1 p0.Places.length c_p0_1], .blk b24 39 [.int .i64 r18.1.Events, .slice A20 n21 c22], .row A20 n21 c22 96 4 ((recs GPlace.cells) r18.1.Places), .blk b31 39 [.int .i64 r25.Events, .slice A27 n28 c29], .row A27 n28 c29 96 4 ((recs GPlace.cells) r25.Places), .row A34 n35 c36 2 1 (ints r32), .blk b44 39 [.int .i64 r38.1.Events, .slice A40 n41 c42], .row A40 n41 c42 96 4 ((recs GPlace.cells) r38.1.Places), .row A65 n66 c67 96 4 ((recs GPlace.cells) r63.Places)] := hs.join hs1
          clear hs1
          have hs0 : St [] W w [.blk b1 35 [.int .i64 p0.Events, .slice A_p0_1 p0.Places.length c_p0_1], .blk b24 39 [.int .i64 r18.1.Events, .slice A20 n21 c22], .row A20 n21 c22 96 4 ((recs GPlace.cells) r18.1.Places), .blk b31 39 [.int .i64 r25.Events, .slice A27 n28 c29], .row A27 n28 c29 96 4 ((recs GPlace.cells) r25.Places), .row A34 n35 c36 2 1 (ints r32), .blk b44 39 [.int .i64 r38.1.Events, .slice A40 n41 c42], .row A40 n41 c42 96 4 ((recs GPlace.cells) r38.1.Places)] := hs.sel [0, 1, 2, 3, 4, 5, 6, 7] (by decide)
          refine wpO_nil ⟨Or.inr (fun _ => hs0), ?_⟩
          refine mRun (i := 3) rfl (by kernel_rfl) ?_
          obtain ⟨r69, hc70, hm⟩ := bind_some hm
          refine sCall hf rfl rfl rfl rfl (cap := []) rfl rfl en28 (laws_eqEventGraph_ok F r25 A27 n28 c29 hn30 r63 A65 n66 c67 hn68 _ _ hc70 (hs.rd (i := 4) rfl) (hs.rd (i := 8) rfl)) ?_; clear hf
          rintro _ w ⟨rfl, hs1⟩ a hf
          have hs : St [] W w [.blk b1 35 [.int .i64 p0.Events, .slice A_p0_1 p0.Places.length c_p0_1], .blk b24 39 [.int .i64 r18.1.Events, .slice A20 n21 c22], .row A20 n21 c22 96 4 ((recs GPlace.cells) r18.1.Places), .blk b31 39 [.int .i64 r25.Events, .slice A27 n28 c29], .row A27 n28 c29 96 4 ((recs GPlace.cells) r25.Places), .row A34 n35 c36 2 1 (ints r32), .blk b44 39 [.int .i64 r38.1.Events, .slice A40 n41 c42], .row A40 n41 c42 96 4 ((recs GPlace.cells) r38.1.Places), .row A65 n66 c67 96 4 ((recs GPlace.cells) r63.Places)] := hs.ext hs1.below
          clear hs1
          refine wpO_nil ⟨Or.inl (by decide), ?_⟩
          refine mYp (i := 4) rfl (by kernel_rfl) (by kernel_rfl) hf rfl rfl rfl (fun _ => Y_not rfl rfl) ?_; clear hf; intro a hf
          refine mDone (by kernel_rfl) ?_
          clear hs0
          refine wpL_cond hf rfl (fun hb71 => ?_) (fun hb71 => ?_)
          · have hm := bif_t hm hb71
            refine wpL_seq ?_
            refine wpL_region ?_
            refine sY hf hs rfl rfl rfl (Y_assign rfl rfl) ?_; clear hf; intro a hf
            refine wpO_nil ?_
            obtain rfl := Option.some.inj hm
            refine wpL_ret (ret_tmp rfl hf rfl ?_)
            exact ⟨_, rfl, rfl, hs.sel [] (by decide)⟩
          · have hm := bif_f hm hb71
            refine wpL_skip ?_
            refine wpL_seq ?_
            refine wpL_seq ?_
            refine wpL_region ?_
            refine sY hf hs rfl rfl rfl (Y_move rfl rfl) ?_; clear hf; intro a hf
            refine sY hf hs rfl rfl rfl (Y_move rfl rfl) ?_; clear hf; intro a hf
            obtain ⟨r72, hc73, hm⟩ := bind_some hm
            refine sCall hf rfl rfl rfl rfl (cap := []) rfl rfl en17 (laws_toInt64S_ok F p1 A_p1_1 p1.length c_p1_1 rfl _ _ hc73 (h_p1_1.at hs)) ?_; clear hf
            rintro _ w ⟨A74, n75, c76, rfl, hn77, hs1⟩ a hf
            have hs : St [] W w [.blk b1 35 [.int .i64 p0.Events, .slice A_p0_1 p0.Places.length c_p0_1], .blk b24 39 [.int .i64 r18.1.Events, .slice A20 n21 c22], .row A20 n21 c22 96 4 ((recs GPlace.cells) r18.1.Places), .blk b31 39 [.int .i64 r25.Events, .slice A27 n28 c29], .row A27 n28 c29 96 4 ((recs GPlace.cells) r25.Places), .row A34 n35 c36 2 1 (ints r32), .blk b44 39 [.int .i64 r38.1.Events, .slice A40 n41 c42], .row A40 n41 c42 96 4 ((recs GPlace.cells) r38.1.Places), .row A65 n66 c67 96 4 ((recs GPlace.cells) r63.Places), .row A74 n75 c76 2 1 (ints r72)] := hs.join hs1
            clear hs1
            obtain ⟨r78, hc79, hm⟩ := bind_some hm
            refine sCall hf rfl rfl rfl rfl (cap := []) rfl rfl en19 (laws_eqInt64S_ok F r32 A34 n35 c36 hn37 r72 A74 n75 c76 hn77 _ _ hc79 (hs.rd (i := 5) rfl) (hs.rd (i := 9) rfl)) ?_; clear hf
            rintro _ w ⟨rfl, hs1⟩ a hf
            have hs : St [] W w [.blk b1 35 [.int .i64 p0.Events, .slice A_p0_1 p0.Places.length c_p0_1], .blk b24 39 [.int .i64 r18.1.Events, .slice A20 n21 c22], .row A20 n21 c22 96 4 ((recs GPlace.cells) r18.1.Places), .blk b31 39 [.int .i64 r25.Events, .slice A27 n28 c29], .row A27 n28 c29 96 4 ((recs GPlace.cells) r25.Places), .row A34 n35 c36 2 1 (ints r32), .blk b44 39 [.int .i64 r38.1.Events, .slice A40 n41 c42], .row A40 n41 c42 96 4 ((recs GPlace.cells) r38.1.Places), .row A65 n66 c67 96 4 ((recs GPlace.cells) r63.Places), .row A74 n75 c76 2 1 (ints r72)] := hs.ext hs1.below
            clear hs1
            refine sY hf hs rfl rfl rfl (Y_not rfl rfl) ?_; clear hf; intro a hf
            refine wpO_nil ?_
            refine wpL_cond hf rfl (fun hb80 => ?_) (fun hb80 => ?_)
            · have hm := bif_t hm hb80
              refine wpL_seq ?_
              refine wpL_region ?_
              refine sY hf hs rfl rfl rfl (Y_assign rfl rfl) ?_; clear hf; intro a hf
              refine wpO_nil ?_
              obtain rfl := Option.some.inj hm
              refine wpL_ret (ret_tmp rfl hf rfl ?_)
              exact ⟨_, rfl, rfl, hs.sel [] (by decide)⟩
            · have hm := bif_f hm hb80
              refine wpL_skip ?_
              refine wpL_seq ?_
              refine wpL_region ?_
              refine sY hf hs rfl rfl rfl (Y_assign rfl rfl) ?_; clear hf; intro a hf
              refine wpO_nil ?_
              refine wpL_seq ?_
              refine wpL_region ?_
              refine sY hf hs rfl rfl rfl (Y_load_blkS rfl rfl (i := 3) rfl ag39 ti39 rfl) ?_; clear hf; intro a hf
              refine sY hf hs rfl rfl rfl (Y_move rfl rfl) ?_; clear hf; intro a hf
              obtain ⟨r81, hc82, hm⟩ := bind_some hm
              refine sCall hf rfl rfl rfl rfl (cap := []) rfl rfl en29 (laws_markEventGraph_ok F r25 A27 n28 c29 hn30 1 _ _ hc82 (hs.res _ _ (show _[4]? = some _ from rfl))) ?_; clear hf
              rintro _ w ⟨rfl, hn83, hs1⟩ a hf
              have hs : St [] W w [.blk b1 35 [.int .i64 p0.Events, .slice A_p0_1 p0.Places.length c_p0_1], .blk b24 39 [.int .i64 r18.1.Events, .slice A20 n21 c22], .row A20 n21 c22 96 4 ((recs GPlace.cells) r18.1.Places), .blk b31 39 [.int .i64 r25.Events, .slice A27 n28 c29], .row A27 n28 c29 96 4 ((recs GPlace.cells) r81.2), .row A34 n35 c36 2 1 (ints r32), .blk b44 39 [.int .i64 r38.1.Events, .slice A40 n41 c42], .row A40 n41 c42 96 4 ((recs GPlace.cells) r38.1.Places), .row A65 n66 c67 96 4 ((recs GPlace.cells) r63.Places), .row A74 n75 c76 2 1 (ints r72)] := hs.mut (i := 4) rfl (fun b hb => muA_mem hb) hs1
              clear hs1
              refine sY hf hs rfl rfl rfl (Y_assign rfl rfl) ?_; clear hf; intro a hf
              refine wpO_nil ?_
              refine wpL_seq ?_
              refine wpL_region ?_
              refine sY hf hs rfl rfl rfl (Y_move rfl rfl) ?_; clear hf; intro a hf
              refine sY hf hs rfl rfl rfl (Y_move rfl rfl) ?_; clear hf; intro a hf
              obtain ⟨r84, hc85, hm⟩ := bind_some hm
              refine sCall hf rfl rfl rfl rfl (cap := []) rfl rfl en22 (laws_markInt64S_ok F r32 A34 n35 c36 hn37 r81.1 _ _ hc85 (hs.res _ _ (show _[5]? = some _ from rfl))) ?_; clear hf
              rintro _ w ⟨rfl, hn86, hs1⟩ a hf
              have hs : St [] W w [.blk b1 35 [.int .i64 p0.Events, .slice A_p0_1 p0.Places.length c_p0_1], .blk b24 39 [.int .i64 r18.1.Events, .slice A20 n21 c22], .row A20 n21 c22 96 4 ((recs GPlace.cells) r18.1.Places), .blk b31 39 [.int .i64 r25.Events, .slice A27 n28 c29], .row A27 n28 c29 96 4 ((recs GPlace.cells) r81.2), .row A34 n35 c36 2 1 (ints r84.2), .blk b44 39 [.int .i64 r38.1.Events, .slice A40 n41 c42], .row A40 n41 c42 96 4 ((recs GPlace.cells) r38.1.Places), .row A65 n66 c67 96 4 ((recs GPlace.cells) r63.Places), .row A74 n75 c76 2 1 (ints r72)] := hs.mut (i := 5) rfl (fun b hb => muA_mem hb) hs1
              clear hs1
              refine sY hf hs rfl rfl rfl (Y_assign rfl rfl) ?_; clear hf; intro a hf
              refine wpO_nil ?_
              refine wpL_seq ?_
              refine wpL_seq ?_
              obtain ⟨r92, hj93, hm⟩ := bind_some hm
              refine wpL_cut (fun a w => ∃ b91 : Bool, b91 = r92 ∧ Fr a 117 [(1, .slice A_p1_1 p1.length c_p1_1), (2, .pointer (some ⟨b1, 0, none⟩)), (6, .pointer (some ⟨b24, 0, none⟩)), (7, .int .i64 r18.2), (10, .pointer (some ⟨b44, 0, none⟩)), (80, .bool b91)] ∧ St [] W w [.blk b1 35 [.int .i64 p0.Events, .slice A_p0_1 p0.Places.length c_p0_1], .blk b24 39 [.int .i64 r18.1.Events, .slice A20 n21 c22], .row A20 n21 c22 96 4 ((recs GPlace.cells) r18.1.Places), .blk b44 39 [.int .i64 r38.1.Events, .slice A40 n41 c42], .row A40 n41 c42 96 4 ((recs GPlace.cells) r38.1.Places)]) ?_ ?_
              · refine wpL_region ?_
                refine sY hf hs rfl rfl rfl (Y_move rfl rfl) ?_; clear hf; intro a hf
                refine sY hf hs rfl rfl rfl (Y_lss rfl rfl rfl) ?_; clear hf; intro a hf
                refine sY hf hs rfl rfl rfl (Y_move rfl rfl) ?_; clear hf; intro a hf
                refine bsplit (decide (r84.1 < 0)) (fun hb94 => ?_) (fun hb94 => ?_)
                · have hj93 := bif_t hj93 hb94
                  refine sNo hf rfl rfl rfl (congrArg (fun b => some (Value.bool b)) hb94) rfl rfl rfl ?_; clear hf; intro a hf
                  refine sNo hf rfl rfl rfl (congrArg (fun b => some (Value.bool b)) hb94) rfl rfl rfl ?_; clear hf; intro a hf
                  refine sNo hf rfl rfl rfl (congrArg (fun b => some (Value.bool b)) hb94) rfl rfl rfl ?_; clear hf; intro a hf
                  refine sNo hf rfl rfl rfl (congrArg (fun b => some (Value.bool b)) hb94) rfl rfl rfl ?_; clear hf; intro a hf
                  refine sY hf hs rfl rfl rfl (Y_pickT rfl (congrArg (fun b => some (Value.bool b)) hb94) rfl) ?_; clear hf; intro a hf
                  refine sY hf hs rfl rfl rfl (Y_move rfl rfl) ?_; clear hf; intro a hf
                  refine sNo hf rfl rfl rfl rfl rfl rfl rfl ?_; clear hf; intro a hf
                  refine sNo hf rfl rfl rfl rfl rfl rfl rfl ?_; clear hf; intro a hf
                  refine sNo hf rfl rfl rfl rfl rfl rfl rfl ?_; clear hf; intro a hf
                  refine sY hf hs rfl rfl rfl (Y_pickT rfl rfl rfl) ?_; clear hf; intro a hf
                  refine wpO_nil ?_
                  refine wpL_nil (then_normal ?_)
                  exact ⟨true, Option.some.inj hj93, (FrD.pick (FrD.pick (FrD.pick (FrD.pick (FrD.pick (FrD.pick hf.none hf rfl) hf rfl) hf rfl) hf rfl) hf rfl) hf rfl), hs.sel [0, 1, 2, 6, 7] (by decide)⟩
                · have hj93 := bif_f hj93 hb94
                  refine sYg hf hs rfl rfl rfl (congrArg (fun b => some (Value.bool b)) hb94) rfl rfl rfl (Y_load_blkS rfl rfl (i := 6) rfl ag39 ti39 rfl) ?_; clear hf; intro a hf
                  refine sYg hf hs rfl rfl rfl (congrArg (fun b => some (Value.bool b)) hb94) rfl rfl rfl (Y_load_blkS rfl rfl (i := 1) rfl ag39 ti39 rfl) ?_; clear hf; intro a hf
                  obtain ⟨r95, hc96, hj93⟩ := bind_some hj93
                  refine sCallg hf rfl rfl rfl (congrArg (fun b => some (Value.bool b)) hb94) rfl rfl rfl rfl (cap := []) rfl rfl en28 (laws_eqEventGraph_ok F (GEventGraph.mk r38.1.Events r38.1.Places) A40 n41 c42 hn43 (GEventGraph.mk r18.1.Events r18.1.Places) A20 n21 c22 hn23 _ _ hc96 (hs.rd (i := 7) rfl) (hs.rd (i := 2) rfl)) ?_; clear hf
                  rintro _ w ⟨rfl, hs1⟩ a hf
                  have hs : St [] W w [.blk b1 35 [.int .i64 p0.Events, .slice A_p0_1 p0.Places.length c_p0_1], .blk b24 39 [.int .i64 r18.1.Events, .slice A20 n21 c22], .row A20 n21 c22 96 4 ((recs GPlace.cells) r18.1.Places), .blk b31 39 [.int .i64 r25.Events, .slice A27 n28 c29], .row A27 n28 c29 96 4 ((recs GPlace.cells) r81.2), .row A34 n35 c36 2 1 (ints r84.2), .blk b44 39 [.int .i64 r38.1.Events, .slice A40 n41 c42], .row A40 n41 c42 96 4 ((recs GPlace.cells) r38.1.Places), .row A65 n66 c67 96 4 ((recs GPlace.cells) r63.Places), .row A74 n75 c76 2 1 (ints r72)] := hs.ext hs1.below
                  clear hs1
                  refine sYg hf hs rfl rfl rfl (congrArg (fun b => some (Value.bool b)) hb94) rfl rfl rfl (Y_not rfl rfl) ?_; clear hf; intro a hf
                  refine sY hf hs rfl rfl rfl (Y_pickF rfl (congrArg (fun b => some (Value.bool b)) hb94) rfl) ?_; clear hf; intro a hf
                  refine sY hf hs rfl rfl rfl (Y_move rfl rfl) ?_; clear hf; intro a hf
                  refine bsplit (!r95) (fun hb97 => ?_) (fun hb97 => ?_)
                  · have hj93 := bif_t hj93 hb97
                    refine sNo hf rfl rfl rfl (congrArg (fun b => some (Value.bool b)) hb97) rfl rfl rfl ?_; clear hf; intro a hf
                    refine sNo hf rfl rfl rfl (congrArg (fun b => some (Value.bool b)) hb97) rfl rfl rfl ?_; clear hf; intro a hf
                    refine sNo hf rfl rfl rfl (congrArg (fun b => some (Value.bool b)) hb97) rfl rfl rfl ?_; clear hf; intro a hf
                    refine sY hf hs rfl rfl rfl (Y_pickT rfl (congrArg (fun b => some (Value.bool b)) hb97) rfl) ?_; clear hf; intro a hf
                    refine wpO_nil ?_
                    refine wpL_nil (then_normal ?_)
                    exact ⟨true, Option.some.inj hj93, (FrD.pick (FrD.pick (FrD.pick (FrD.pick (FrD.pick (FrD.pick hf.none hf rfl) hf rfl) hf rfl) hf rfl) hf rfl) hf rfl), hs.sel [0, 1, 2, 6, 7] (by decide)⟩
                  · have hj93 := bif_f hj93 hb97
                    refine sYg hf hs rfl rfl rfl (congrArg (fun b => some (Value.bool b)) hb97) rfl rfl rfl (Y_move rfl rfl) ?_; clear hf; intro a hf
                    refine sYg hf hs rfl rfl rfl (congrArg (fun b => some (Value.bool b)) hb97) rfl rfl rfl (Y_move rfl rfl) ?_; clear hf; intro a hf
                    refine sYg hf hs rfl rfl rfl (congrArg (fun b => some (Value.bool b)) hb97) rfl rfl rfl (Y_neq rfl rfl rfl) ?_; clear hf; intro a hf
                    refine sY hf hs rfl rfl rfl (Y_pickF rfl (congrArg (fun b => some (Value.bool b)) hb97) rfl) ?_; clear hf; intro a hf
                    refine wpO_nil ?_
                    refine wpL_nil (then_normal ?_)
                    exact ⟨(r38.2 != r18.2), Option.some.inj hj93, (FrD.pick (FrD.pick (FrD.pick (FrD.pick (FrD.pick (FrD.pick hf.none hf rfl) hf rfl) hf rfl) hf rfl) hf rfl) hf rfl), hs.sel [0, 1, 2, 6, 7] (by decide)⟩
              · rintro a w ⟨b91, hr_, hf, hs⟩
                subst hr_
                try dsimp only at hm
                refine wpL_cond hf rfl (fun hb98 => ?_) (fun hb98 => ?_)
                · have hm := bif_t hm hb98
                  refine wpL_seq ?_
                  refine wpL_region ?_
                  refine sY hf hs rfl rfl rfl (Y_assign rfl rfl) ?_; clear hf; intro a hf
                  refine wpO_nil ?_
                  obtain rfl := Option.some.inj hm
                  refine wpL_ret (ret_tmp rfl hf rfl ?_)
                  exact ⟨_, rfl, rfl, hs.sel [] (by decide)⟩
                · have hm := bif_f hm hb98
                  refine wpL_skip ?_
                  refine wpL_seq ?_
                  refine wpL_region ?_
                  refine sY hf hs rfl rfl rfl (Y_assign rfl rfl) ?_; clear hf; intro a hf
                  refine wpO_nil ?_
                  refine wpL_seq ?_
                  refine wpL_region ?_
                  refine sY hf hs rfl rfl rfl (Y_load_blkS rfl rfl (i := 3) rfl ag39 ti39 rfl) ?_; clear hf; intro a hf
                  refine sY hf hs rfl rfl rfl (Y_move rfl rfl) ?_; clear hf; intro a hf
                  obtain ⟨r99, hc100, hm⟩ := bind_some hm
                  refine sCall hf rfl rfl rfl rfl (cap := []) rfl rfl en29 (laws_markEventGraph_ok F (GEventGraph.mk r38.1.Events r38.1.Places) A40 n41 c42 hn43 1 _ _ hc100 (hs.res _ _ (show _[4]? = some _ from rfl))) ?_; clear hf
                  rintro _ w ⟨rfl, hn101, hs1⟩ a hf
                  have hs : St [] W w [.blk b1 35 [.int .i64 p0.Events, .slice A_p0_1 p0.Places.length c_p0_1], .blk b24 39 [.int .i64 r18.1.Events, .slice A20 n21 c22], .row A20 n21 c22 96 4 ((recs GPlace.cells) r18.1.Places), .blk b44 39 [.int .i64 r38.1.Events, .slice A40 n41 c42], .row A40 n41 c42 96 4 ((recs GPlace.cells) r99.2)] := hs.mut (i := 4) rfl (fun b hb => muA_mem hb) hs1
                  clear hs1
                  refine sY hf hs rfl rfl rfl (Y_assign rfl rfl) ?_; clear hf; intro a hf
                  refine wpO_nil ?_
                  refine wpL_seq ?_
                  refine wpL_region ?_
                  refine sY hf hs rfl rfl rfl (Y_assign rfl rfl) ?_; clear hf; intro a hf
                  refine wpO_nil ?_
                  refine wpL_seq ?_
                  refine wpL_region ?_
                  refine sY hf hs rfl rfl rfl (Y_load_blkS rfl rfl (i := 3) rfl ag39 ti39 rfl) ?_; clear hf; intro a hf
                  refine sY hf hs rfl rfl rfl (Y_move rfl rfl) ?_; clear hf; intro a hf
                  obtain ⟨r102, hc103, hm⟩ := bind_some hm
                  refine sCall hf rfl rfl rfl rfl (cap := []) rfl rfl en30 (laws_heldEventGraph_ok F (GEventGraph.mk r38.1.Events r99.2) A40 n41 c42 hn101 1 _ _ hc103 (hs.rd (i := 4) rfl)) ?_; clear hf
                  rintro _ w ⟨rfl, hs1⟩ a hf
                  have hs : St [] W w [.blk b1 35 [.int .i64 p0.Events, .slice A_p0_1 p0.Places.length c_p0_1], .blk b24 39 [.int .i64 r18.1.Events, .slice A20 n21 c22], .row A20 n21 c22 96 4 ((recs GPlace.cells) r18.1.Places), .blk b44 39 [.int .i64 r38.1.Events, .slice A40 n41 c42], .row A40 n41 c42 96 4 ((recs GPlace.cells) r99.2)] := hs.ext hs1.below
                  clear hs1
                  refine sY hf hs rfl rfl rfl (Y_assign rfl rfl) ?_; clear hf; intro a hf
                  refine wpO_nil ?_
                  refine wpL_seq ?_
                  refine wpL_seq ?_
                  refine wpL_region ?_
                  refine sY hf hs rfl rfl rfl (Y_move rfl rfl) ?_; clear hf; intro a hf
                  refine sY hf hs rfl rfl rfl (Y_lss rfl rfl rfl) ?_; clear hf; intro a hf
                  refine wpO_nil ?_
                  refine wpL_cond hf rfl (fun hb104 => ?_) (fun hb104 => ?_)
                  · have hm := bif_t hm hb104
                    refine wpL_seq ?_
                    refine wpL_region ?_
                    refine sY hf hs rfl rfl rfl (Y_assign rfl rfl) ?_; clear hf; intro a hf
                    refine wpO_nil ?_
                    obtain rfl := Option.some.inj hm
                    refine wpL_ret (ret_tmp rfl hf rfl ?_)
                    exact ⟨_, rfl, rfl, hs.sel [] (by decide)⟩
                  · have hm := bif_f hm hb104
                    refine wpL_skip ?_
                    refine wpL_seq ?_
                    refine wpL_seq ?_
                    refine wpL_region ?_
                    refine sY hf hs rfl rfl rfl (Y_move rfl rfl) ?_; clear hf; intro a hf
                    refine sY hf hs rfl rfl rfl (Y_move rfl rfl) ?_; clear hf; intro a hf
                    refine sY hf hs rfl rfl rfl (Y_neq rfl rfl rfl) ?_; clear hf; intro a hf
                    refine wpO_nil ?_
                    refine wpL_cond hf rfl (fun hb105 => ?_) (fun hb105 => ?_)
                    · have hm := bif_t hm hb105
                      refine wpL_seq ?_
                      refine wpL_region ?_
                      refine sY hf hs rfl rfl rfl (Y_assign rfl rfl) ?_; clear hf; intro a hf
                      refine wpO_nil ?_
                      obtain rfl := Option.some.inj hm
                      refine wpL_ret (ret_tmp rfl hf rfl ?_)
                      exact ⟨_, rfl, rfl, hs.sel [] (by decide)⟩
                    · have hm := bif_f hm hb105
                      refine wpL_skip ?_
                      refine wpL_seq ?_
                      refine wpL_region ?_
                      refine sY hf hs rfl rfl rfl (Y_load_blkS rfl rfl (i := 0) rfl ag35 ti35 rfl) ?_; clear hf; intro a hf
                      obtain ⟨r106, hc107, hm⟩ := bind_some hm
                      refine sCall hf rfl rfl rfl rfl (cap := []) rfl rfl en26 (laws_toEventGraph_ok F p0 A_p0_1 p0.Places.length c_p0_1 rfl _ _ hc107 (h_p0_1.at hs)) ?_; clear hf
                      rintro _ w ⟨A108, n109, c110, rfl, hn111, hs1⟩ a hf
                      have hs : St [] W w [.blk b1 35 [.int .i64 p0.Events, .slice A_p0_1 p0.Places.length c_p0_1], .blk b24 39 [.int .i64 r18.1.Events, .slice A20 n21 c22], .row A20 n21 c22 96 4 ((recs GPlace.cells) r18.1.Places), .blk b44 39 [.int .i64 r38.1.Events, .slice A40 n41 c42], .row A40 n41 c42 96 4 ((recs GPlace.cells) r99.2), .row A108 n109 c110 96 4 ((recs GPlace.cells) r106.Places)] := hs.join hs1
                      clear hs1
                      refine sY hf hs rfl rfl rfl (Y_move rfl rfl) ?_; clear hf; intro a hf
                      obtain ⟨r112, hc113, hm⟩ := bind_some hm
                      refine sCall hf rfl rfl rfl rfl (cap := []) rfl rfl en17 (laws_toInt64S_ok F p1 A_p1_1 p1.length c_p1_1 rfl _ _ hc113 (h_p1_1.at hs)) ?_; clear hf
                      rintro _ w ⟨A114, n115, c116, rfl, hn117, hs1⟩ a hf
                      have hs : St [] W w [.blk b1 35 [.int .i64 p0.Events, .slice A_p0_1 p0.Places.length c_p0_1], .blk b24 39 [.int .i64 r18.1.Events, .slice A20 n21 c22], .row A20 n21 c22 96 4 ((recs GPlace.cells) r18.1.Places), .blk b44 39 [.int .i64 r38.1.Events, .slice A40 n41 c42], .row A40 n41 c42 96 4 ((recs GPlace.cells) r99.2), .row A108 n109 c110 96 4 ((recs GPlace.cells) r106.Places), .row A114 n115 c116 2 1 (ints r112)] := hs.join hs1
                      clear hs1
                      obtain ⟨r118, hc119, hm⟩ := bind_some hm
                      refine sCall hf rfl rfl rfl rfl (cap := []) rfl rfl en32 (impl_PartOfGraph_ok F r106 A108 n109 c110 hn111 r112 A114 n115 c116 hn117 _ _ hc119 (hs.rd (i := 5) rfl) (hs.rd (i := 6) rfl)) ?_; clear hf
                      rintro _ w ⟨A120, n121, c122, rfl, hn123, hs1⟩ a hf
                      have hs : St [] W w [.blk b1 35 [.int .i64 p0.Events, .slice A_p0_1 p0.Places.length c_p0_1], .blk b24 39 [.int .i64 r18.1.Events, .slice A20 n21 c22], .row A20 n21 c22 96 4 ((recs GPlace.cells) r18.1.Places), .blk b44 39 [.int .i64 r38.1.Events, .slice A40 n41 c42], .row A40 n41 c42 96 4 ((recs GPlace.cells) r99.2), .row A108 n109 c110 96 4 ((recs GPlace.cells) r106.Places), .row A114 n115 c116 2 1 (ints r112), .row A120 n121 c122 96 4 ((recs GPlace.cells) r118.1.Places)] := hs.join hs1
                      clear hs1
                      refine sY hf hs rfl rfl rfl (Y_move rfl rfl) ?_; clear hf; intro a hf
                      refine sY hf hs rfl rfl rfl (Y_extract rfl rfl rfl) ?_; clear hf; intro a hf
                      refine sY hf hs rfl rfl rfl (Y_extract rfl rfl rfl) ?_; clear hf; intro a hf
                      refine sAlloc hf hs rfl rfl rfl rfl ti39 ?_; clear hf hs; intro a w b124 hs hf
                      have hs : St [] W w [.blk b1 35 [.int .i64 p0.Events, .slice A_p0_1 p0.Places.length c_p0_1], .blk b24 39 [.int .i64 r18.1.Events, .slice A20 n21 c22], .row A20 n21 c22 96 4 ((recs GPlace.cells) r18.1.Places), .blk b44 39 [.int .i64 r38.1.Events, .slice A40 n41 c42], .row A40 n41 c42 96 4 ((recs GPlace.cells) r99.2), .row A108 n109 c110 96 4 ((recs GPlace.cells) r106.Places), .row A114 n115 c116 2 1 (ints r112), .row A120 n121 c122 96 4 ((recs GPlace.cells) r118.1.Places), .blk b124 39 [.int .i64 0, .slice none 0 0]] := hs
                      refine sStore (i := 8) (us := [.int .i64 r118.1.Events, .slice A120 n121 c122]) hf hs rfl rfl rfl rfl rfl rfl ti39 rfl rfl rfl (Nat.le_of_ble_eq_true rfl) rfl ?_; clear hs; intro w hs
                      have hs : St [] W w [.blk b1 35 [.int .i64 p0.Events, .slice A_p0_1 p0.Places.length c_p0_1], .blk b24 39 [.int .i64 r18.1.Events, .slice A20 n21 c22], .row A20 n21 c22 96 4 ((recs GPlace.cells) r18.1.Places), .blk b44 39 [.int .i64 r38.1.Events, .slice A40 n41 c42], .row A40 n41 c42 96 4 ((recs GPlace.cells) r99.2), .row A108 n109 c110 96 4 ((recs GPlace.cells) r106.Places), .row A114 n115 c116 2 1 (ints r112), .row A120 n121 c122 96 4 ((recs GPlace.cells) r118.1.Places), .blk b124 39 [.int .i64 r118.1.Events, .slice A120 n121 c122]] := hs
                      refine sY hf hs rfl rfl rfl (Y_assign rfl rfl) ?_; clear hf; intro a hf
                      refine wpO_nil ?_
                      refine wpL_seq ?_
                      refine wpL_seq ?_
                      obtain ⟨r129, hj130, hm⟩ := bind_some hm
                      refine wpL_cut (fun a w => ∃ b128 : Bool, b128 = r129 ∧ Fr a 117 [(10, .pointer (some ⟨b44, 0, none⟩)), (13, .int .i64 r99.1), (108, .bool b128)] ∧ St [] W w [.blk b44 39 [.int .i64 r38.1.Events, .slice A40 n41 c42], .row A40 n41 c42 96 4 ((recs GPlace.cells) r99.2)]) ?_ ?_
                      · refine wpL_region ?_
                        refine sY hf hs rfl rfl rfl (Y_load_blkS rfl rfl (i := 8) rfl ag39 ti39 rfl) ?_; clear hf; intro a hf
                        refine sY hf hs rfl rfl rfl (Y_load_blkS rfl rfl (i := 1) rfl ag39 ti39 rfl) ?_; clear hf; intro a hf
                        obtain ⟨r131, hc132, hj130⟩ := bind_some hj130
                        refine sCall hf rfl rfl rfl rfl (cap := []) rfl rfl en28 (laws_eqEventGraph_ok F (GEventGraph.mk r118.1.Events r118.1.Places) A120 n121 c122 hn123 (GEventGraph.mk r18.1.Events r18.1.Places) A20 n21 c22 hn23 _ _ hc132 (hs.rd (i := 7) rfl) (hs.rd (i := 2) rfl)) ?_; clear hf
                        rintro _ w ⟨rfl, hs1⟩ a hf
                        have hs : St [] W w [.blk b1 35 [.int .i64 p0.Events, .slice A_p0_1 p0.Places.length c_p0_1], .blk b24 39 [.int .i64 r18.1.Events, .slice A20 n21 c22], .row A20 n21 c22 96 4 ((recs GPlace.cells) r18.1.Places), .blk b44 39 [.int .i64 r38.1.Events, .slice A40 n41 c42], .row A40 n41 c42 96 4 ((recs GPlace.cells) r99.2), .row A108 n109 c110 96 4 ((recs GPlace.cells) r106.Places), .row A114 n115 c116 2 1 (ints r112), .row A120 n121 c122 96 4 ((recs GPlace.cells) r118.1.Places), .blk b124 39 [.int .i64 r118.1.Events, .slice A120 n121 c122]] := hs.ext hs1.below
                        clear hs1
                        refine sY hf hs rfl rfl rfl (Y_not rfl rfl) ?_; clear hf; intro a hf
                        refine sY hf hs rfl rfl rfl (Y_move rfl rfl) ?_; clear hf; intro a hf
                        refine bsplit (!r131) (fun hb133 => ?_) (fun hb133 => ?_)
                        · have hj130 := bif_t hj130 hb133
                          refine sNo hf rfl rfl rfl (congrArg (fun b => some (Value.bool b)) hb133) rfl rfl rfl ?_; clear hf; intro a hf
                          refine sNo hf rfl rfl rfl (congrArg (fun b => some (Value.bool b)) hb133) rfl rfl rfl ?_; clear hf; intro a hf
                          refine sNo hf rfl rfl rfl (congrArg (fun b => some (Value.bool b)) hb133) rfl rfl rfl ?_; clear hf; intro a hf
                          refine sY hf hs rfl rfl rfl (Y_pickT rfl (congrArg (fun b => some (Value.bool b)) hb133) rfl) ?_; clear hf; intro a hf
                          refine wpO_nil ?_
                          refine wpL_nil (then_normal ?_)
                          exact ⟨true, Option.some.inj hj130, (FrD.pick (FrD.pick (FrD.pick hf.none hf rfl) hf rfl) hf rfl), hs.sel [3, 4] (by decide)⟩
                        · have hj130 := bif_f hj130 hb133
                          refine sYg hf hs rfl rfl rfl (congrArg (fun b => some (Value.bool b)) hb133) rfl rfl rfl (Y_move rfl rfl) ?_; clear hf; intro a hf
                          refine sYg hf hs rfl rfl rfl (congrArg (fun b => some (Value.bool b)) hb133) rfl rfl rfl (Y_move rfl rfl) ?_; clear hf; intro a hf
                          refine sYg hf hs rfl rfl rfl (congrArg (fun b => some (Value.bool b)) hb133) rfl rfl rfl (Y_neq rfl rfl rfl) ?_; clear hf; intro a hf
                          refine sY hf hs rfl rfl rfl (Y_pickF rfl (congrArg (fun b => some (Value.bool b)) hb133) rfl) ?_; clear hf; intro a hf
                          refine wpO_nil ?_
                          refine wpL_nil (then_normal ?_)
                          exact ⟨(r118.2 != r18.2), Option.some.inj hj130, (FrD.pick (FrD.pick (FrD.pick hf.none hf rfl) hf rfl) hf rfl), hs.sel [3, 4] (by decide)⟩
                      · rintro a w ⟨b128, hr_, hf, hs⟩
                        subst hr_
                        try dsimp only at hm
                        refine wpL_cond hf rfl (fun hb134 => ?_) (fun hb134 => ?_)
                        · have hm := bif_t hm hb134
                          refine wpL_seq ?_
                          refine wpL_region ?_
                          refine sY hf hs rfl rfl rfl (Y_assign rfl rfl) ?_; clear hf; intro a hf
                          refine wpO_nil ?_
                          obtain rfl := Option.some.inj hm
                          refine wpL_ret (ret_tmp rfl hf rfl ?_)
                          exact ⟨_, rfl, rfl, hs.sel [] (by decide)⟩
                        · have hm := bif_f hm hb134
                          refine wpL_skip ?_
                          refine wpL_seq ?_
                          refine wpL_region ?_
                          refine sY hf hs rfl rfl rfl (Y_assign rfl rfl) ?_; clear hf; intro a hf
                          refine wpO_nil ?_
                          refine wpL_seq ?_
                          refine wpL_region ?_
                          refine sY hf hs rfl rfl rfl (Y_load_blkS rfl rfl (i := 0) rfl ag39 ti39 rfl) ?_; clear hf; intro a hf
                          refine sY hf hs rfl rfl rfl (Y_move rfl rfl) ?_; clear hf; intro a hf
                          obtain ⟨r135, hc136, hm⟩ := bind_some hm
                          refine sCall hf rfl rfl rfl rfl (cap := []) rfl rfl en30 (laws_heldEventGraph_ok F (GEventGraph.mk r38.1.Events r99.2) A40 n41 c42 hn101 1 _ _ hc136 (hs.rd (i := 1) rfl)) ?_; clear hf
                          rintro _ w ⟨rfl, hs1⟩ a hf
                          have hs : St [] W w [.blk b44 39 [.int .i64 r38.1.Events, .slice A40 n41 c42], .row A40 n41 c42 96 4 ((recs GPlace.cells) r99.2)] := hs.ext hs1.below
                          clear hs1
                          refine sY hf hs rfl rfl rfl (Y_assign rfl rfl) ?_; clear hf; intro a hf
                          refine wpO_nil ?_
                          refine wpL_seq ?_
                          refine wpL_seq ?_
                          refine wpL_region ?_
                          refine sY hf hs rfl rfl rfl (Y_move rfl rfl) ?_; clear hf; intro a hf
                          refine sY hf hs rfl rfl rfl (Y_lss rfl rfl rfl) ?_; clear hf; intro a hf
                          refine wpO_nil ?_
                          refine wpL_cond hf rfl (fun hb137 => ?_) (fun hb137 => ?_)
                          · have hm := bif_t hm hb137
                            refine wpL_seq ?_
                            refine wpL_region ?_
                            refine sY hf hs rfl rfl rfl (Y_assign rfl rfl) ?_; clear hf; intro a hf
                            refine wpO_nil ?_
                            obtain rfl := Option.some.inj hm
                            refine wpL_ret (ret_tmp rfl hf rfl ?_)
                            exact ⟨_, rfl, rfl, hs.sel [] (by decide)⟩
                          · have hm := bif_f hm hb137
                            refine wpL_skip ?_
                            refine wpL_seq ?_
                            refine wpL_seq ?_
                            refine wpL_region ?_
                            refine sY hf hs rfl rfl rfl (Y_move rfl rfl) ?_; clear hf; intro a hf
                            refine sY hf hs rfl rfl rfl (Y_move rfl rfl) ?_; clear hf; intro a hf
                            refine sY hf hs rfl rfl rfl (Y_neq rfl rfl rfl) ?_; clear hf; intro a hf
                            refine wpO_nil ?_
                            refine wpL_cond hf rfl (fun hb138 => ?_) (fun hb138 => ?_)
                            · have hm := bif_t hm hb138
                              refine wpL_seq ?_
                              refine wpL_region ?_
                              refine sY hf hs rfl rfl rfl (Y_assign rfl rfl) ?_; clear hf; intro a hf
                              refine wpO_nil ?_
                              obtain rfl := Option.some.inj hm
                              refine wpL_ret (ret_tmp rfl hf rfl ?_)
                              exact ⟨_, rfl, rfl, hs.sel [] (by decide)⟩
                            · have hm := bif_f hm hb138
                              refine wpL_skip ?_
                              refine wpL_seq ?_
                              refine wpL_region ?_
                              refine sY hf hs rfl rfl rfl (Y_assign rfl rfl) ?_; clear hf; intro a hf
                              refine wpO_nil ?_
                              obtain rfl := Option.some.inj hm
                              refine wpL_ret (ret_tmp rfl hf rfl ?_)
                              exact ⟨_, rfl, rfl, hs.sel [] (by decide)⟩

end Go.Proofs.Ytpmebacdmilecaa
