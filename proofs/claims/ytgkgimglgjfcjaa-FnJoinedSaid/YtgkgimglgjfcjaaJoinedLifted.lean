/- The functions do what their models say. -/
import Derived.Test.YtgkgimglgjfcjaaJoinedLifted3
import Derived.Test.YtgkgimglgjfcjaaRows
namespace Go.Proofs.Ytgkgimglgjfcjaa
open Go.RowKit

set_option maxRecDepth 100000 in
theorem impl_PartOfGraph_ok (F : Nat) (p0_g : GEventGraph) (A_p0_g_1 : Option Addr) (n_p0_g_1 c_p0_g_1 : Nat) (hn_p0_g_1 : n_p0_g_1 = p0_g.Places.length) (p1_events : List Int) (A_p1_events_1 : Option Addr) (n_p1_events_1 c_p1_events_1 : Nat) (hn_p1_events_1 : n_p1_events_1 = p1_events.length) (r : GEventGraph × Int) (W : World) (hm : impl_PartOfGraph F p0_g p1_events = some r) (h_p0_g_1 : Rd W A_p0_g_1 ((recs GPlace.cells) p0_g.Places)) (h_p1_events_1 : Rd W A_p1_events_1 (ints p1_events)) :
    Calls Try.prog 53 [.agg #[.int .i64 p0_g.Events, .slice A_p0_g_1 n_p0_g_1 c_p0_g_1], .slice A_p1_events_1 n_p1_events_1 c_p1_events_1].toArray W fun e w' => ∃ v, e = .returned v ∧ ∃ A38, ∃ n39, ∃ c40, v = .tuple #[.agg #[.int .i64 r.1.Events, .slice A38 n39 c40], .int .i64 r.2] ∧ n39 = r.1.Places.length ∧ St [] W w' [.row A38 n39 c40 127 4 ((recs GPlace.cells) r.1.Places)] := by
  subst hn_p0_g_1
  subst hn_p1_events_1
  unfold impl_PartOfGraph at hm
  refine Calls.enter (N := 38) Try.func53 rfl rfl rfl (fun a hf => ?_)
  have hs := St.start W
  obtain ⟨w, hw_⟩ : ∃ w, w = W := ⟨W, rfl⟩
  clear hw_ w
  refine wpL_seq ?_
  refine wpL_region ?_
  refine sBox hf hs rfl rfl rfl rfl rfl (cs := [.int .i64 p0_g.Events, .slice A_p0_g_1 p0_g.Places.length c_p0_g_1]) rfl ?_; clear hf hs; intro a w b1 hs hf
  have hs : St [] W w [.blk b1 59 [.int .i64 p0_g.Events, .slice A_p0_g_1 p0_g.Places.length c_p0_g_1]] := hs
  refine sBox hf hs rfl rfl rfl rfl rfl (cs := [.slice A_p1_events_1 p1_events.length c_p1_events_1]) rfl ?_; clear hf hs; intro a w b2 hs hf
  have hs : St [] W w [.blk b1 59 [.int .i64 p0_g.Events, .slice A_p0_g_1 p0_g.Places.length c_p0_g_1], .blk b2 23 [.slice A_p1_events_1 p1_events.length c_p1_events_1]] := hs
  refine sAlloc hf hs rfl rfl rfl rfl ti59 ?_; clear hf hs; intro a w b3 hs hf
  have hs : St [] W w [.blk b1 59 [.int .i64 p0_g.Events, .slice A_p0_g_1 p0_g.Places.length c_p0_g_1], .blk b2 23 [.slice A_p1_events_1 p1_events.length c_p1_events_1], .blk b3 59 [.int .i64 0, .slice none 0 0]] := hs
  refine sY hf hs rfl rfl rfl (Y_assign rfl rfl) ?_; clear hf; intro a hf
  refine wpO_nil ?_
  refine wpL_seq ?_
  refine wpL_seq ?_
  refine wpL_region ?_
  refine sY hf hs rfl rfl rfl (Y_load_blkS rfl rfl (i := 0) rfl ag59 ti59 rfl) ?_; clear hf; intro a hf
  obtain ⟨r4, hc5, hm⟩ := bind_some hm
  refine sCall hf rfl rfl rfl rfl (cap := []) rfl rfl en51 (impl_IsEventGraph_ok F p0_g A_p0_g_1 p0_g.Places.length c_p0_g_1 rfl _ _ hc5 (h_p0_g_1.at hs)) ?_; clear hf
  rintro _ w ⟨rfl, hs1⟩ a hf
  have hs : St [] W w [.blk b1 59 [.int .i64 p0_g.Events, .slice A_p0_g_1 p0_g.Places.length c_p0_g_1], .blk b2 23 [.slice A_p1_events_1 p1_events.length c_p1_events_1], .blk b3 59 [.int .i64 0, .slice none 0 0]] := hs.ext hs1.below
  clear hs1
  refine sY hf hs rfl rfl rfl (Y_not rfl rfl) ?_; clear hf; intro a hf
  refine wpO_nil ?_
  refine wpL_cond hf rfl (fun hb6 => ?_) (fun hb6 => ?_)
  · have hm := bif_t hm hb6
    refine wpL_seq ?_
    refine wpL_region ?_
    refine sY hf hs rfl rfl rfl (Y_build (parts := []) (vs := []) rfl rfl (run_build (parts := []) (cells := [.int .i64 0, .slice none 0 0]) (places := #[(0, 1), (1, 1)]) ti59 Try.underlying59 (fun w => by simp [go_sem]) rfl)) ?_; clear hf; intro a hf
    refine sStore (i := 2) (us := [.int .i64 0, .slice none 0 0]) hf hs rfl rfl rfl rfl rfl rfl ti59 rfl rfl rfl (Nat.le_of_ble_eq_true rfl) rfl ?_; clear hs; intro w hs
    have hs : St [] W w [.blk b1 59 [.int .i64 p0_g.Events, .slice A_p0_g_1 p0_g.Places.length c_p0_g_1], .blk b2 23 [.slice A_p1_events_1 p1_events.length c_p1_events_1], .blk b3 59 [.int .i64 0, .slice none 0 0]] := hs
    refine sY hf hs rfl rfl rfl (Y_assign rfl rfl) ?_; clear hf; intro a hf
    refine wpO_nil ?_
    have hs : St [] W _ [.blk b1 59 [.int .i64 p0_g.Events, .slice A_p0_g_1 p0_g.Places.length c_p0_g_1], .blk b2 23 [.slice A_p1_events_1 p1_events.length c_p1_events_1], .blk b3 59 [.int .i64 0, .slice none 0 0], .row none 0 0 127 4 ((recs GPlace.cells) ([] : List GPlace))] := hs.addNil 127 4
    obtain rfl := Option.some.inj hm
    refine wpL_ret (ret_cell_tmp rfl hf rfl rfl hs (i := 2) rfl ag59 ti59 rfl ?_)
    exact ⟨_, rfl, none, 0, 0, rfl, rfl, hs.sel [3] (by decide)⟩
  · have hm := bif_f hm hb6
    refine wpL_skip ?_
    refine wpL_seq ?_
    refine wpL_seq ?_
    obtain ⟨r15, hj16, hm⟩ := bind_some hm
    refine wpL_cut (fun a w => ∃ b14 : Bool, b14 = r15 ∧ Fr a 38 [(2, .pointer (some ⟨b1, 0, none⟩)), (3, .pointer (some ⟨b2, 0, none⟩)), (4, .pointer (some ⟨b3, 0, none⟩)), (26, .bool b14)] ∧ St [] W w [.blk b1 59 [.int .i64 p0_g.Events, .slice A_p0_g_1 p0_g.Places.length c_p0_g_1], .blk b2 23 [.slice A_p1_events_1 p1_events.length c_p1_events_1], .blk b3 59 [.int .i64 0, .slice none 0 0]]) ?_ ?_
    · refine wpL_region ?_
      refine sY hf hs rfl rfl rfl (Y_load_blk rfl rfl (i := 1) rfl rfl ag23) ?_; clear hf; intro a hf
      refine sY hf hs rfl rfl rfl (Y_lenH rfl rfl el23 rfl) ?_; clear hf; intro a hf
      refine sY hf hs rfl rfl rfl (Y_eql rfl rfl rfl) ?_; clear hf; intro a hf
      refine sY hf hs rfl rfl rfl (Y_move rfl rfl) ?_; clear hf; intro a hf
      refine bsplit ((p1_events.length : Int) == 0) (fun hb17 => ?_) (fun hb17 => ?_)
      · have hj16 := bif_t hj16 hb17
        refine sNo hf rfl rfl rfl (congrArg (fun b => some (Value.bool b)) hb17) rfl rfl rfl ?_; clear hf; intro a hf
        refine sNo hf rfl rfl rfl (congrArg (fun b => some (Value.bool b)) hb17) rfl rfl rfl ?_; clear hf; intro a hf
        refine sNo hf rfl rfl rfl (congrArg (fun b => some (Value.bool b)) hb17) rfl rfl rfl ?_; clear hf; intro a hf
        refine sNo hf rfl rfl rfl (congrArg (fun b => some (Value.bool b)) hb17) rfl rfl rfl ?_; clear hf; intro a hf
        refine sNo hf rfl rfl rfl (congrArg (fun b => some (Value.bool b)) hb17) rfl rfl rfl ?_; clear hf; intro a hf
        refine sNo hf rfl rfl rfl (congrArg (fun b => some (Value.bool b)) hb17) rfl rfl rfl ?_; clear hf; intro a hf
        refine sY hf hs rfl rfl rfl (Y_pickT rfl (congrArg (fun b => some (Value.bool b)) hb17) rfl) ?_; clear hf; intro a hf
        refine sY hf hs rfl rfl rfl (Y_move rfl rfl) ?_; clear hf; intro a hf
        refine sNo hf rfl rfl rfl rfl rfl rfl rfl ?_; clear hf; intro a hf
        refine sNo hf rfl rfl rfl rfl rfl rfl rfl ?_; clear hf; intro a hf
        refine sNo hf rfl rfl rfl rfl rfl rfl rfl ?_; clear hf; intro a hf
        refine sY hf hs rfl rfl rfl (Y_pickT rfl rfl rfl) ?_; clear hf; intro a hf
        refine wpO_nil ?_
        refine wpL_nil (then_normal ?_)
        exact ⟨true, Option.some.inj hj16, (FrD.pick (FrD.pick (FrD.pick (FrD.pick hf.none hf rfl) hf rfl) hf rfl) hf rfl), hs⟩
      · have hj16 := bif_f hj16 hb17
        refine sYg hf hs rfl rfl rfl (congrArg (fun b => some (Value.bool b)) hb17) rfl rfl rfl (Y_load_blk rfl rfl (i := 1) rfl rfl ag23) ?_; clear hf; intro a hf
        refine sYg hf hs rfl rfl rfl (congrArg (fun b => some (Value.bool b)) hb17) rfl rfl rfl (Y_fieldAddr rfl rfl fo59_0) ?_; clear hf; intro a hf
        refine sYg hf hs rfl rfl rfl (congrArg (fun b => some (Value.bool b)) hb17) rfl rfl rfl (Y_load_blk rfl rfl (i := 0) rfl rfl ag2) ?_; clear hf; intro a hf
        refine sYg hf hs rfl rfl rfl (congrArg (fun b => some (Value.bool b)) hb17) rfl rfl rfl (Y_sub rfl rfl rfl) ?_; clear hf; intro a hf
        obtain ⟨r18, hc19, hj16⟩ := bind_some hj16
        refine sCallg hf rfl rfl rfl (congrArg (fun b => some (Value.bool b)) hb17) rfl rfl rfl rfl (cap := []) rfl rfl en121 (impl_allWithin_ok F p1_events A_p1_events_1 p1_events.length c_p1_events_1 rfl 0 (IntKind.i64.wrap (p0_g.Events - 1)) _ _ hc19 (h_p1_events_1.at hs)) ?_; clear hf
        rintro _ w ⟨rfl, hs1⟩ a hf
        have hs : St [] W w [.blk b1 59 [.int .i64 p0_g.Events, .slice A_p0_g_1 p0_g.Places.length c_p0_g_1], .blk b2 23 [.slice A_p1_events_1 p1_events.length c_p1_events_1], .blk b3 59 [.int .i64 0, .slice none 0 0]] := hs.ext hs1.below
        clear hs1
        refine sYg hf hs rfl rfl rfl (congrArg (fun b => some (Value.bool b)) hb17) rfl rfl rfl (Y_not rfl rfl) ?_; clear hf; intro a hf
        refine sY hf hs rfl rfl rfl (Y_pickF rfl (congrArg (fun b => some (Value.bool b)) hb17) rfl) ?_; clear hf; intro a hf
        refine sY hf hs rfl rfl rfl (Y_move rfl rfl) ?_; clear hf; intro a hf
        refine bsplit (!r18) (fun hb20 => ?_) (fun hb20 => ?_)
        · have hj16 := bif_t hj16 hb20
          refine sNo hf rfl rfl rfl (congrArg (fun b => some (Value.bool b)) hb20) rfl rfl rfl ?_; clear hf; intro a hf
          refine sNo hf rfl rfl rfl (congrArg (fun b => some (Value.bool b)) hb20) rfl rfl rfl ?_; clear hf; intro a hf
          refine sNo hf rfl rfl rfl (congrArg (fun b => some (Value.bool b)) hb20) rfl rfl rfl ?_; clear hf; intro a hf
          refine sY hf hs rfl rfl rfl (Y_pickT rfl (congrArg (fun b => some (Value.bool b)) hb20) rfl) ?_; clear hf; intro a hf
          refine wpO_nil ?_
          refine wpL_nil (then_normal ?_)
          exact ⟨true, Option.some.inj hj16, (FrD.pick (FrD.pick (FrD.pick (FrD.pick hf.none hf rfl) hf rfl) hf rfl) hf rfl), hs⟩
        · have hj16 := bif_f hj16 hb20
          refine sYg hf hs rfl rfl rfl (congrArg (fun b => some (Value.bool b)) hb20) rfl rfl rfl (Y_load_blk rfl rfl (i := 1) rfl rfl ag23) ?_; clear hf; intro a hf
          obtain ⟨r21, hc22, hj16⟩ := bind_some hj16
          refine sCallg hf rfl rfl rfl (congrArg (fun b => some (Value.bool b)) hb20) rfl rfl rfl rfl (cap := []) rfl rfl en143 (impl_increasing_ok F p1_events A_p1_events_1 p1_events.length c_p1_events_1 rfl _ _ hc22 (h_p1_events_1.at hs)) ?_; clear hf
          rintro _ w ⟨rfl, hs1⟩ a hf
          have hs : St [] W w [.blk b1 59 [.int .i64 p0_g.Events, .slice A_p0_g_1 p0_g.Places.length c_p0_g_1], .blk b2 23 [.slice A_p1_events_1 p1_events.length c_p1_events_1], .blk b3 59 [.int .i64 0, .slice none 0 0]] := hs.ext hs1.below
          clear hs1
          refine sYg hf hs rfl rfl rfl (congrArg (fun b => some (Value.bool b)) hb20) rfl rfl rfl (Y_not rfl rfl) ?_; clear hf; intro a hf
          refine sY hf hs rfl rfl rfl (Y_pickF rfl (congrArg (fun b => some (Value.bool b)) hb20) rfl) ?_; clear hf; intro a hf
          refine wpO_nil ?_
          refine wpL_nil (then_normal ?_)
          exact ⟨(!r21), Option.some.inj hj16, (FrD.pick (FrD.pick (FrD.pick (FrD.pick hf.none hf rfl) hf rfl) hf rfl) hf rfl), hs⟩
    · rintro a w ⟨b14, hr_, hf, hs⟩
      subst hr_
      try dsimp only at hm
      refine wpL_cond hf rfl (fun hb23 => ?_) (fun hb23 => ?_)
      · have hm := bif_t hm hb23
        refine wpL_seq ?_
        refine wpL_region ?_
        refine sY hf hs rfl rfl rfl (Y_build (parts := []) (vs := []) rfl rfl (run_build (parts := []) (cells := [.int .i64 0, .slice none 0 0]) (places := #[(0, 1), (1, 1)]) ti59 Try.underlying59 (fun w => by simp [go_sem]) rfl)) ?_; clear hf; intro a hf
        refine sStore (i := 2) (us := [.int .i64 0, .slice none 0 0]) hf hs rfl rfl rfl rfl rfl rfl ti59 rfl rfl rfl (Nat.le_of_ble_eq_true rfl) rfl ?_; clear hs; intro w hs
        have hs : St [] W w [.blk b1 59 [.int .i64 p0_g.Events, .slice A_p0_g_1 p0_g.Places.length c_p0_g_1], .blk b2 23 [.slice A_p1_events_1 p1_events.length c_p1_events_1], .blk b3 59 [.int .i64 0, .slice none 0 0]] := hs
        refine sY hf hs rfl rfl rfl (Y_assign rfl rfl) ?_; clear hf; intro a hf
        refine wpO_nil ?_
        have hs : St [] W _ [.blk b1 59 [.int .i64 p0_g.Events, .slice A_p0_g_1 p0_g.Places.length c_p0_g_1], .blk b2 23 [.slice A_p1_events_1 p1_events.length c_p1_events_1], .blk b3 59 [.int .i64 0, .slice none 0 0], .row none 0 0 127 4 ((recs GPlace.cells) ([] : List GPlace))] := hs.addNil 127 4
        obtain rfl := Option.some.inj hm
        refine wpL_ret (ret_cell_tmp rfl hf rfl rfl hs (i := 2) rfl ag59 ti59 rfl ?_)
        exact ⟨_, rfl, none, 0, 0, rfl, rfl, hs.sel [3] (by decide)⟩
      · have hm := bif_f hm hb23
        refine wpL_skip ?_
        refine wpL_seq ?_
        refine wpL_region ?_
        refine sY hf hs rfl rfl rfl (Y_load_blkS rfl rfl (i := 0) rfl ag59 ti59 rfl) ?_; clear hf; intro a hf
        refine sY hf hs rfl rfl rfl (Y_load_blk rfl rfl (i := 1) rfl rfl ag23) ?_; clear hf; intro a hf
        refine sY hf hs rfl rfl rfl (Y_lenH rfl rfl el23 rfl) ?_; clear hf; intro a hf
        refine sY hf hs rfl rfl rfl (Y_makeFunc (us := []) (vs := [.pointer (some ⟨b2, 0, none⟩)]) rfl rfl rfl) ?_; clear hf; intro a hf
        obtain ⟨r25, hc26, hm⟩ := bind_some hm
        refine sCall hf rfl rfl rfl rfl (cap := []) rfl rfl en135 (impl_mappedGraph_ok F p0_g A_p0_g_1 p0_g.Places.length c_p0_g_1 rfl (p1_events.length : Int) (fun x0 => impl_PartOfGraph_c1 F x0 p1_events) 144 ([.pointer (some ⟨b2, 0, none⟩)]) _ _ hc26 (h_p0_g_1.at hs) (fun x0 r w' hm_ hb => impl_PartOfGraph_c1_ok F x0 b2 p1_events A_p1_events_1 p1_events.length c_p1_events_1 rfl r w' hm_ ((h_p1_events_1.at hs).below hb (Nat.le_refl _)) ((hs.pb (i := 1) rfl).below hb (Nat.le_refl _))) en144) ?_; clear hf
        rintro _ w ⟨A27, n28, c29, rfl, hn30, hs1⟩ a hf
        have hs : St [] W w [.blk b1 59 [.int .i64 p0_g.Events, .slice A_p0_g_1 p0_g.Places.length c_p0_g_1], .blk b2 23 [.slice A_p1_events_1 p1_events.length c_p1_events_1], .blk b3 59 [.int .i64 0, .slice none 0 0], .row A27 n28 c29 127 4 ((recs GPlace.cells) r25.Places)] := hs.join hs1
        clear hs1
        refine sAlloc hf hs rfl rfl rfl rfl ti59 ?_; clear hf hs; intro a w b31 hs hf
        have hs : St [] W w [.blk b1 59 [.int .i64 p0_g.Events, .slice A_p0_g_1 p0_g.Places.length c_p0_g_1], .blk b2 23 [.slice A_p1_events_1 p1_events.length c_p1_events_1], .blk b3 59 [.int .i64 0, .slice none 0 0], .row A27 n28 c29 127 4 ((recs GPlace.cells) r25.Places), .blk b31 59 [.int .i64 0, .slice none 0 0]] := hs
        refine sStore (i := 4) (us := [.int .i64 r25.Events, .slice A27 n28 c29]) hf hs rfl rfl rfl rfl rfl rfl ti59 rfl rfl rfl (Nat.le_of_ble_eq_true rfl) rfl ?_; clear hs; intro w hs
        have hs : St [] W w [.blk b1 59 [.int .i64 p0_g.Events, .slice A_p0_g_1 p0_g.Places.length c_p0_g_1], .blk b2 23 [.slice A_p1_events_1 p1_events.length c_p1_events_1], .blk b3 59 [.int .i64 0, .slice none 0 0], .row A27 n28 c29 127 4 ((recs GPlace.cells) r25.Places), .blk b31 59 [.int .i64 r25.Events, .slice A27 n28 c29]] := hs
        refine wpO_nil ?_
        refine wpL_seq ?_
        refine wpL_region ?_
        refine sY hf hs rfl rfl rfl (Y_fieldAddr rfl rfl fo59_1) ?_; clear hf; intro a hf
        refine sY hf hs rfl rfl rfl (Y_load_blk rfl rfl (i := 4) rfl rfl ag57) ?_; clear hf; intro a hf
        obtain ⟨r32, hc33, hm⟩ := bind_some hm
        refine sCall hf rfl rfl rfl rfl (cap := []) rfl rfl en146 (slices_DeleteFunc_Place_ok F r25.Places A27 n28 c29 hn30 (fun x0 => impl_PartOfGraph_c2 F x0) 147 [] _ _ hc33 (hs.res _ _ (show _[3]? = some _ from rfl)) (fun x0 r w' hm_ hb => impl_PartOfGraph_c2_ok F x0 r w' hm_ ) en147) ?_; clear hf
        rintro _ w ⟨n34, rfl, hn35, hk36, hn37, hs1⟩ a hf
        have hs : St [] W w [.blk b1 59 [.int .i64 p0_g.Events, .slice A_p0_g_1 p0_g.Places.length c_p0_g_1], .blk b2 23 [.slice A_p1_events_1 p1_events.length c_p1_events_1], .blk b3 59 [.int .i64 0, .slice none 0 0], .row A27 n28 c29 127 4 ((recs GPlace.cells) r32.2), .blk b31 59 [.int .i64 r25.Events, .slice A27 n28 c29]] := hs.mut (i := 3) rfl (fun b hb => muA_mem hb) hs1
        clear hs1
        refine sY hf hs rfl rfl rfl (Y_fieldAddr rfl rfl fo59_1) ?_; clear hf; intro a hf
        have hs := (St.cutRecs GPlace.len hs (i := 3) rfl hn37 hk36)
        have hs : St [] W _ [.blk b1 59 [.int .i64 p0_g.Events, .slice A_p0_g_1 p0_g.Places.length c_p0_g_1], .blk b2 23 [.slice A_p1_events_1 p1_events.length c_p1_events_1], .blk b3 59 [.int .i64 0, .slice none 0 0], .row A27 n34 c29 127 4 ((recs GPlace.cells) r32.1), .blk b31 59 [.int .i64 r25.Events, .slice A27 n28 c29]] := hs
        refine sStore (i := 4) (us := [.slice A27 n34 c29]) hf hs rfl rfl rfl rfl rfl rfl ti57 rfl rfl rfl (Nat.le_of_ble_eq_true rfl) rfl ?_; clear hs; intro w hs
        have hs : St [] W w [.blk b1 59 [.int .i64 p0_g.Events, .slice A_p0_g_1 p0_g.Places.length c_p0_g_1], .blk b2 23 [.slice A_p1_events_1 p1_events.length c_p1_events_1], .blk b3 59 [.int .i64 0, .slice none 0 0], .row A27 n34 c29 127 4 ((recs GPlace.cells) r32.1), .blk b31 59 [.int .i64 r25.Events, .slice A27 n34 c29]] := hs
        refine wpO_nil ?_
        refine wpL_seq ?_
        refine wpL_region ?_
        refine sY hf hs rfl rfl rfl (Y_load_blkS rfl rfl (i := 4) rfl ag59 ti59 rfl) ?_; clear hf; intro a hf
        refine sStore (i := 2) (us := [.int .i64 r25.Events, .slice A27 n34 c29]) hf hs rfl rfl rfl rfl rfl rfl ti59 rfl rfl rfl (Nat.le_of_ble_eq_true rfl) rfl ?_; clear hs; intro w hs
        have hs : St [] W w [.blk b1 59 [.int .i64 p0_g.Events, .slice A_p0_g_1 p0_g.Places.length c_p0_g_1], .blk b2 23 [.slice A_p1_events_1 p1_events.length c_p1_events_1], .blk b3 59 [.int .i64 r25.Events, .slice A27 n34 c29], .row A27 n34 c29 127 4 ((recs GPlace.cells) r32.1), .blk b31 59 [.int .i64 r25.Events, .slice A27 n34 c29]] := hs
        refine sY hf hs rfl rfl rfl (Y_assign rfl rfl) ?_; clear hf; intro a hf
        refine wpO_nil ?_
        obtain rfl := Option.some.inj hm
        refine wpL_ret (ret_cell_tmp rfl hf rfl rfl hs (i := 2) rfl ag59 ti59 rfl ?_)
        exact ⟨_, rfl, A27, n34, c29, rfl, hn35, hs.sel [3] (by decide)⟩

set_option maxHeartbeats 2000000 in
set_option maxRecDepth 100000 in
theorem laws_FnJoined_ok (F : Nat) (p0 : List Int) (A_p0_1 : Option Addr) (n_p0_1 c_p0_1 : Nat) (hn_p0_1 : n_p0_1 = p0.length) (r : Bool) (W : World) (hm : laws_FnJoined F p0 = some r) (h_p0_1 : Rd W A_p0_1 (bytes p0)) :
    Calls Try.prog 7 [.slice A_p0_1 n_p0_1 c_p0_1].toArray W fun e w' => ∃ v, e = .returned v ∧ v = .bool r ∧ St [] W w' [] := by
  subst hn_p0_1
  unfold laws_FnJoined at hm
  refine Calls.enter (N := 240) Try.func7 rfl rfl rfl (fun a hf => ?_)
  have hs := St.start W
  obtain ⟨w, hw_⟩ : ∃ w, w = W := ⟨W, rfl⟩
  clear hw_ w
  refine wpL_seq ?_
  refine wpL_region ?_
  refine sY hf hs rfl rfl rfl (Y_assign rfl rfl) ?_; clear hf; intro a hf
  refine wpO_nil ?_
  refine wpL_seq ?_
  refine wpL_seq ?_
  refine wpL_region ?_
  refine sY hf hs rfl rfl rfl (Y_move rfl rfl) ?_; clear hf; intro a hf
  obtain ⟨r1, hc2, hm⟩ := bind_some hm
  refine sCall hf rfl rfl rfl rfl (cap := []) rfl rfl en17 (laws_big_ok F p0 A_p0_1 p0.length c_p0_1 rfl _ _ hc2 (h_p0_1.at hs)) ?_; clear hf
  rintro _ w ⟨rfl, hs1⟩ a hf
  have hs : St [] W w [] := hs.ext hs1.below
  clear hs1
  refine wpO_nil ?_
  refine wpL_cond hf rfl (fun hb3 => ?_) (fun hb3 => ?_)
  · have hm := bif_t hm hb3
    refine wpL_seq ?_
    refine wpL_region ?_
    refine sY hf hs rfl rfl rfl (Y_assign rfl rfl) ?_; clear hf; intro a hf
    refine wpO_nil ?_
    obtain rfl := Option.some.inj hm
    refine wpL_ret (ret_tmp rfl hf rfl ?_)
    exact ⟨_, rfl, rfl, hs⟩
  · have hm := bif_f hm hb3
    refine wpL_skip ?_
    refine wpL_seq ?_
    refine wpL_region ?_
    refine sY hf hs rfl rfl rfl (Y_move rfl rfl) ?_; clear hf; intro a hf
    obtain ⟨r4, hc5, hm⟩ := bind_some hm
    refine sCall hf rfl rfl rfl rfl (cap := []) rfl rfl en41 (spec_DrawJoinGraphs_ok F p0 A_p0_1 p0.length c_p0_1 rfl _ _ hc5 (h_p0_1.at hs)) ?_; clear hf
    rintro _ w ⟨A6, n7, c8, A10, n11, c12, rfl, hn9, hn13, hs1⟩ a hf
    have hs : St [] W w [.row A6 n7 c8 127 4 ((recs GPlace.cells) r4.1.Places), .row A10 n11 c12 127 4 ((recs GPlace.cells) r4.2.Places)] := hs.join hs1
    clear hs1
    refine sY hf hs rfl rfl rfl (Y_move rfl rfl) ?_; clear hf; intro a hf
    refine sY hf hs rfl rfl rfl (Y_extract rfl rfl rfl) ?_; clear hf; intro a hf
    refine sY hf hs rfl rfl rfl (Y_extract rfl rfl rfl) ?_; clear hf; intro a hf
    refine sAlloc hf hs rfl rfl rfl rfl ti59 ?_; clear hf hs; intro a w b14 hs hf
    have hs : St [] W w [.row A6 n7 c8 127 4 ((recs GPlace.cells) r4.1.Places), .row A10 n11 c12 127 4 ((recs GPlace.cells) r4.2.Places), .blk b14 59 [.int .i64 0, .slice none 0 0]] := hs
    refine sAlloc hf hs rfl rfl rfl rfl ti59 ?_; clear hf hs; intro a w b15 hs hf
    have hs : St [] W w [.row A6 n7 c8 127 4 ((recs GPlace.cells) r4.1.Places), .row A10 n11 c12 127 4 ((recs GPlace.cells) r4.2.Places), .blk b14 59 [.int .i64 0, .slice none 0 0], .blk b15 59 [.int .i64 0, .slice none 0 0]] := hs
    refine sStore (i := 2) (us := [.int .i64 r4.1.Events, .slice A6 n7 c8]) hf hs rfl rfl rfl rfl rfl rfl ti59 rfl rfl rfl (Nat.le_of_ble_eq_true rfl) rfl ?_; clear hs; intro w hs
    have hs : St [] W w [.row A6 n7 c8 127 4 ((recs GPlace.cells) r4.1.Places), .row A10 n11 c12 127 4 ((recs GPlace.cells) r4.2.Places), .blk b14 59 [.int .i64 r4.1.Events, .slice A6 n7 c8], .blk b15 59 [.int .i64 0, .slice none 0 0]] := hs
    refine sStore (i := 3) (us := [.int .i64 r4.2.Events, .slice A10 n11 c12]) hf hs rfl rfl rfl rfl rfl rfl ti59 rfl rfl rfl (Nat.le_of_ble_eq_true rfl) rfl ?_; clear hs; intro w hs
    have hs : St [] W w [.row A6 n7 c8 127 4 ((recs GPlace.cells) r4.1.Places), .row A10 n11 c12 127 4 ((recs GPlace.cells) r4.2.Places), .blk b14 59 [.int .i64 r4.1.Events, .slice A6 n7 c8], .blk b15 59 [.int .i64 r4.2.Events, .slice A10 n11 c12]] := hs
    refine wpO_nil ?_
    refine wpL_seq ?_
    refine wpL_region ?_
    refine sY hf hs rfl rfl rfl (Y_load_blkS rfl rfl (i := 2) rfl ag59 ti59 rfl) ?_; clear hf; intro a hf
    refine sY hf hs rfl rfl rfl (Y_load_blkS rfl rfl (i := 3) rfl ag59 ti59 rfl) ?_; clear hf; intro a hf
    obtain ⟨r16, hc17, hm⟩ := bind_some hm
    refine sCall hf rfl rfl rfl rfl (cap := []) rfl rfl en42 (impl_JoinGraphs_ok F (GEventGraph.mk r4.1.Events r4.1.Places) A6 n7 c8 hn9 (GEventGraph.mk r4.2.Events r4.2.Places) A10 n11 c12 hn13 _ _ hc17 (hs.rd (i := 0) rfl) (hs.rd (i := 1) rfl)) ?_; clear hf
    rintro _ w ⟨A18, n19, c20, rfl, hn21, hs1⟩ a hf
    have hs : St [] W w [.row A6 n7 c8 127 4 ((recs GPlace.cells) r4.1.Places), .row A10 n11 c12 127 4 ((recs GPlace.cells) r4.2.Places), .blk b14 59 [.int .i64 r4.1.Events, .slice A6 n7 c8], .blk b15 59 [.int .i64 r4.2.Events, .slice A10 n11 c12], .row A18 n19 c20 127 4 ((recs GPlace.cells) r16.1.Places)] := hs.join hs1
    clear hs1
    refine sY hf hs rfl rfl rfl (Y_move rfl rfl) ?_; clear hf; intro a hf
    refine sY hf hs rfl rfl rfl (Y_extract rfl rfl rfl) ?_; clear hf; intro a hf
    refine sY hf hs rfl rfl rfl (Y_extract rfl rfl rfl) ?_; clear hf; intro a hf
    refine sAlloc hf hs rfl rfl rfl rfl ti59 ?_; clear hf hs; intro a w b22 hs hf
    have hs : St [] W w [.row A6 n7 c8 127 4 ((recs GPlace.cells) r4.1.Places), .row A10 n11 c12 127 4 ((recs GPlace.cells) r4.2.Places), .blk b14 59 [.int .i64 r4.1.Events, .slice A6 n7 c8], .blk b15 59 [.int .i64 r4.2.Events, .slice A10 n11 c12], .row A18 n19 c20 127 4 ((recs GPlace.cells) r16.1.Places), .blk b22 59 [.int .i64 0, .slice none 0 0]] := hs
    refine sStore (i := 5) (us := [.int .i64 r16.1.Events, .slice A18 n19 c20]) hf hs rfl rfl rfl rfl rfl rfl ti59 rfl rfl rfl (Nat.le_of_ble_eq_true rfl) rfl ?_; clear hs; intro w hs
    have hs : St [] W w [.row A6 n7 c8 127 4 ((recs GPlace.cells) r4.1.Places), .row A10 n11 c12 127 4 ((recs GPlace.cells) r4.2.Places), .blk b14 59 [.int .i64 r4.1.Events, .slice A6 n7 c8], .blk b15 59 [.int .i64 r4.2.Events, .slice A10 n11 c12], .row A18 n19 c20 127 4 ((recs GPlace.cells) r16.1.Places), .blk b22 59 [.int .i64 r16.1.Events, .slice A18 n19 c20]] := hs
    refine sY hf hs rfl rfl rfl (Y_assign rfl rfl) ?_; clear hf; intro a hf
    refine wpO_nil ?_
    refine wpL_seq ?_
    refine wpL_region ?_
    refine sY hf hs rfl rfl rfl (Y_load_blkS rfl rfl (i := 2) rfl ag59 ti59 rfl) ?_; clear hf; intro a hf
    refine sY hf hs rfl rfl rfl (Y_load_blkS rfl rfl (i := 3) rfl ag59 ti59 rfl) ?_; clear hf; intro a hf
    obtain ⟨r23, hc24, hm⟩ := bind_some hm
    refine sCall hf rfl rfl rfl rfl (cap := []) rfl rfl en43 (spec_JoinGraphs_ok F (GEventGraph.mk r4.1.Events r4.1.Places) A6 n7 c8 hn9 (GEventGraph.mk r4.2.Events r4.2.Places) A10 n11 c12 hn13 _ _ hc24 (hs.rd (i := 0) rfl) (hs.rd (i := 1) rfl)) ?_; clear hf
    rintro _ w ⟨A25, n26, c27, rfl, hn28, hs1⟩ a hf
    have hs : St [] W w [.row A6 n7 c8 127 4 ((recs GPlace.cells) r4.1.Places), .row A10 n11 c12 127 4 ((recs GPlace.cells) r4.2.Places), .blk b14 59 [.int .i64 r4.1.Events, .slice A6 n7 c8], .blk b15 59 [.int .i64 r4.2.Events, .slice A10 n11 c12], .row A18 n19 c20 127 4 ((recs GPlace.cells) r16.1.Places), .blk b22 59 [.int .i64 r16.1.Events, .slice A18 n19 c20], .row A25 n26 c27 127 4 ((recs GPlace.cells) r23.1.Places)] := hs.join hs1
    clear hs1
    refine sY hf hs rfl rfl rfl (Y_move rfl rfl) ?_; clear hf; intro a hf
    refine sY hf hs rfl rfl rfl (Y_extract rfl rfl rfl) ?_; clear hf; intro a hf
    refine sY hf hs rfl rfl rfl (Y_extract rfl rfl rfl) ?_; clear hf; intro a hf
    refine sAlloc hf hs rfl rfl rfl rfl ti59 ?_; clear hf hs; intro a w b29 hs hf
    have hs : St [] W w [.row A6 n7 c8 127 4 ((recs GPlace.cells) r4.1.Places), .row A10 n11 c12 127 4 ((recs GPlace.cells) r4.2.Places), .blk b14 59 [.int .i64 r4.1.Events, .slice A6 n7 c8], .blk b15 59 [.int .i64 r4.2.Events, .slice A10 n11 c12], .row A18 n19 c20 127 4 ((recs GPlace.cells) r16.1.Places), .blk b22 59 [.int .i64 r16.1.Events, .slice A18 n19 c20], .row A25 n26 c27 127 4 ((recs GPlace.cells) r23.1.Places), .blk b29 59 [.int .i64 0, .slice none 0 0]] := hs
    refine sStore (i := 7) (us := [.int .i64 r23.1.Events, .slice A25 n26 c27]) hf hs rfl rfl rfl rfl rfl rfl ti59 rfl rfl rfl (Nat.le_of_ble_eq_true rfl) rfl ?_; clear hs; intro w hs
    have hs : St [] W w [.row A6 n7 c8 127 4 ((recs GPlace.cells) r4.1.Places), .row A10 n11 c12 127 4 ((recs GPlace.cells) r4.2.Places), .blk b14 59 [.int .i64 r4.1.Events, .slice A6 n7 c8], .blk b15 59 [.int .i64 r4.2.Events, .slice A10 n11 c12], .row A18 n19 c20 127 4 ((recs GPlace.cells) r16.1.Places), .blk b22 59 [.int .i64 r16.1.Events, .slice A18 n19 c20], .row A25 n26 c27 127 4 ((recs GPlace.cells) r23.1.Places), .blk b29 59 [.int .i64 r23.1.Events, .slice A25 n26 c27]] := hs
    refine sY hf hs rfl rfl rfl (Y_assign rfl rfl) ?_; clear hf; intro a hf
    refine wpO_nil ?_
    refine wpL_seq ?_
    refine wpL_region ?_
    refine sY hf hs rfl rfl rfl (Y_move rfl rfl) ?_; clear hf; intro a hf
    obtain ⟨r30, hc31, hm⟩ := bind_some hm
    refine sCall hf rfl rfl rfl rfl (cap := []) rfl rfl en44 (spec_DrawSplitPlace_ok F p0 A_p0_1 p0.length c_p0_1 rfl _ _ hc31 (h_p0_1.at hs)) ?_; clear hf
    rintro _ w ⟨A32, n33, c34, rfl, hn35, hs1⟩ a hf
    have hs : St [] W w [.row A6 n7 c8 127 4 ((recs GPlace.cells) r4.1.Places), .row A10 n11 c12 127 4 ((recs GPlace.cells) r4.2.Places), .blk b14 59 [.int .i64 r4.1.Events, .slice A6 n7 c8], .blk b15 59 [.int .i64 r4.2.Events, .slice A10 n11 c12], .row A18 n19 c20 127 4 ((recs GPlace.cells) r16.1.Places), .blk b22 59 [.int .i64 r16.1.Events, .slice A18 n19 c20], .row A25 n26 c27 127 4 ((recs GPlace.cells) r23.1.Places), .blk b29 59 [.int .i64 r23.1.Events, .slice A25 n26 c27], .row A32 n33 c34 127 4 ((recs GPlace.cells) r30.1.Places)] := hs.join hs1
    clear hs1
    refine sY hf hs rfl rfl rfl (Y_move rfl rfl) ?_; clear hf; intro a hf
    refine sY hf hs rfl rfl rfl (Y_extract rfl rfl rfl) ?_; clear hf; intro a hf
    refine sY hf hs rfl rfl rfl (Y_extract rfl rfl rfl) ?_; clear hf; intro a hf
    refine sY hf hs rfl rfl rfl (Y_extract rfl rfl rfl) ?_; clear hf; intro a hf
    refine sAlloc hf hs rfl rfl rfl rfl ti59 ?_; clear hf hs; intro a w b36 hs hf
    have hs : St [] W w [.row A6 n7 c8 127 4 ((recs GPlace.cells) r4.1.Places), .row A10 n11 c12 127 4 ((recs GPlace.cells) r4.2.Places), .blk b14 59 [.int .i64 r4.1.Events, .slice A6 n7 c8], .blk b15 59 [.int .i64 r4.2.Events, .slice A10 n11 c12], .row A18 n19 c20 127 4 ((recs GPlace.cells) r16.1.Places), .blk b22 59 [.int .i64 r16.1.Events, .slice A18 n19 c20], .row A25 n26 c27 127 4 ((recs GPlace.cells) r23.1.Places), .blk b29 59 [.int .i64 r23.1.Events, .slice A25 n26 c27], .row A32 n33 c34 127 4 ((recs GPlace.cells) r30.1.Places), .blk b36 59 [.int .i64 0, .slice none 0 0]] := hs
    refine sStore (i := 9) (us := [.int .i64 r30.1.Events, .slice A32 n33 c34]) hf hs rfl rfl rfl rfl rfl rfl ti59 rfl rfl rfl (Nat.le_of_ble_eq_true rfl) rfl ?_; clear hs; intro w hs
    have hs : St [] W w [.row A6 n7 c8 127 4 ((recs GPlace.cells) r4.1.Places), .row A10 n11 c12 127 4 ((recs GPlace.cells) r4.2.Places), .blk b14 59 [.int .i64 r4.1.Events, .slice A6 n7 c8], .blk b15 59 [.int .i64 r4.2.Events, .slice A10 n11 c12], .row A18 n19 c20 127 4 ((recs GPlace.cells) r16.1.Places), .blk b22 59 [.int .i64 r16.1.Events, .slice A18 n19 c20], .row A25 n26 c27 127 4 ((recs GPlace.cells) r23.1.Places), .blk b29 59 [.int .i64 r23.1.Events, .slice A25 n26 c27], .row A32 n33 c34 127 4 ((recs GPlace.cells) r30.1.Places), .blk b36 59 [.int .i64 r30.1.Events, .slice A32 n33 c34]] := hs
    refine sY hf hs rfl rfl rfl (Y_assign rfl rfl) ?_; clear hf; intro a hf
    refine sY hf hs rfl rfl rfl (Y_assign rfl rfl) ?_; clear hf; intro a hf
    refine wpO_nil ?_
    refine wpL_seq ?_
    refine wpL_region ?_
    refine sY hf hs rfl rfl rfl (Y_load_blkS rfl rfl (i := 9) rfl ag59 ti59 rfl) ?_; clear hf; intro a hf
    refine sY hf hs rfl rfl rfl (Y_move rfl rfl) ?_; clear hf; intro a hf
    refine sY hf hs rfl rfl rfl (Y_move rfl rfl) ?_; clear hf; intro a hf
    obtain ⟨r37, hc38, hm⟩ := bind_some hm
    refine sCall hf rfl rfl rfl rfl (cap := []) rfl rfl en45 (impl_SplitPlace_ok F (GEventGraph.mk r30.1.Events r30.1.Places) A32 n33 c34 hn35 r30.2.1 r30.2.2 _ _ hc38 (hs.rd (i := 8) rfl)) ?_; clear hf
    rintro _ w ⟨A39, n40, c41, rfl, hn42, hs1⟩ a hf
    have hs : St [] W w [.row A6 n7 c8 127 4 ((recs GPlace.cells) r4.1.Places), .row A10 n11 c12 127 4 ((recs GPlace.cells) r4.2.Places), .blk b14 59 [.int .i64 r4.1.Events, .slice A6 n7 c8], .blk b15 59 [.int .i64 r4.2.Events, .slice A10 n11 c12], .row A18 n19 c20 127 4 ((recs GPlace.cells) r16.1.Places), .blk b22 59 [.int .i64 r16.1.Events, .slice A18 n19 c20], .row A25 n26 c27 127 4 ((recs GPlace.cells) r23.1.Places), .blk b29 59 [.int .i64 r23.1.Events, .slice A25 n26 c27], .row A32 n33 c34 127 4 ((recs GPlace.cells) r30.1.Places), .blk b36 59 [.int .i64 r30.1.Events, .slice A32 n33 c34], .row A39 n40 c41 127 4 ((recs GPlace.cells) r37.1.Places)] := hs.join hs1
    clear hs1
    refine sY hf hs rfl rfl rfl (Y_move rfl rfl) ?_; clear hf; intro a hf
    refine sY hf hs rfl rfl rfl (Y_extract rfl rfl rfl) ?_; clear hf; intro a hf
    refine sY hf hs rfl rfl rfl (Y_extract rfl rfl rfl) ?_; clear hf; intro a hf
    refine sAlloc hf hs rfl rfl rfl rfl ti59 ?_; clear hf hs; intro a w b43 hs hf
    have hs : St [] W w [.row A6 n7 c8 127 4 ((recs GPlace.cells) r4.1.Places), .row A10 n11 c12 127 4 ((recs GPlace.cells) r4.2.Places), .blk b14 59 [.int .i64 r4.1.Events, .slice A6 n7 c8], .blk b15 59 [.int .i64 r4.2.Events, .slice A10 n11 c12], .row A18 n19 c20 127 4 ((recs GPlace.cells) r16.1.Places), .blk b22 59 [.int .i64 r16.1.Events, .slice A18 n19 c20], .row A25 n26 c27 127 4 ((recs GPlace.cells) r23.1.Places), .blk b29 59 [.int .i64 r23.1.Events, .slice A25 n26 c27], .row A32 n33 c34 127 4 ((recs GPlace.cells) r30.1.Places), .blk b36 59 [.int .i64 r30.1.Events, .slice A32 n33 c34], .row A39 n40 c41 127 4 ((recs GPlace.cells) r37.1.Places), .blk b43 59 [.int .i64 0, .slice none 0 0]] := hs
    refine sStore (i := 11) (us := [.int .i64 r37.1.Events, .slice A39 n40 c41]) hf hs rfl rfl rfl rfl rfl rfl ti59 rfl rfl rfl (Nat.le_of_ble_eq_true rfl) rfl ?_; clear hs; intro w hs
    have hs : St [] W w [.row A6 n7 c8 127 4 ((recs GPlace.cells) r4.1.Places), .row A10 n11 c12 127 4 ((recs GPlace.cells) r4.2.Places), .blk b14 59 [.int .i64 r4.1.Events, .slice A6 n7 c8], .blk b15 59 [.int .i64 r4.2.Events, .slice A10 n11 c12], .row A18 n19 c20 127 4 ((recs GPlace.cells) r16.1.Places), .blk b22 59 [.int .i64 r16.1.Events, .slice A18 n19 c20], .row A25 n26 c27 127 4 ((recs GPlace.cells) r23.1.Places), .blk b29 59 [.int .i64 r23.1.Events, .slice A25 n26 c27], .row A32 n33 c34 127 4 ((recs GPlace.cells) r30.1.Places), .blk b36 59 [.int .i64 r30.1.Events, .slice A32 n33 c34], .row A39 n40 c41 127 4 ((recs GPlace.cells) r37.1.Places), .blk b43 59 [.int .i64 r37.1.Events, .slice A39 n40 c41]] := hs
    refine sY hf hs rfl rfl rfl (Y_assign rfl rfl) ?_; clear hf; intro a hf
    refine wpO_nil ?_
    refine wpL_seq ?_
    refine wpL_region ?_
    refine sY hf hs rfl rfl rfl (Y_load_blkS rfl rfl (i := 9) rfl ag59 ti59 rfl) ?_; clear hf; intro a hf
    refine sY hf hs rfl rfl rfl (Y_move rfl rfl) ?_; clear hf; intro a hf
    refine sY hf hs rfl rfl rfl (Y_move rfl rfl) ?_; clear hf; intro a hf
    obtain ⟨r44, hc45, hm⟩ := bind_some hm
    refine sCall hf rfl rfl rfl rfl (cap := []) rfl rfl en46 (spec_SplitPlace_ok F (GEventGraph.mk r30.1.Events r30.1.Places) A32 n33 c34 hn35 r30.2.1 r30.2.2 _ _ hc45 (hs.rd (i := 8) rfl)) ?_; clear hf
    rintro _ w ⟨A46, n47, c48, rfl, hn49, hs1⟩ a hf
    have hs : St [] W w [.row A6 n7 c8 127 4 ((recs GPlace.cells) r4.1.Places), .row A10 n11 c12 127 4 ((recs GPlace.cells) r4.2.Places), .blk b14 59 [.int .i64 r4.1.Events, .slice A6 n7 c8], .blk b15 59 [.int .i64 r4.2.Events, .slice A10 n11 c12], .row A18 n19 c20 127 4 ((recs GPlace.cells) r16.1.Places), .blk b22 59 [.int .i64 r16.1.Events, .slice A18 n19 c20], .row A25 n26 c27 127 4 ((recs GPlace.cells) r23.1.Places), .blk b29 59 [.int .i64 r23.1.Events, .slice A25 n26 c27], .row A32 n33 c34 127 4 ((recs GPlace.cells) r30.1.Places), .blk b36 59 [.int .i64 r30.1.Events, .slice A32 n33 c34], .row A39 n40 c41 127 4 ((recs GPlace.cells) r37.1.Places), .blk b43 59 [.int .i64 r37.1.Events, .slice A39 n40 c41], .row A46 n47 c48 127 4 ((recs GPlace.cells) r44.1.Places)] := hs.join hs1
    clear hs1
    refine sY hf hs rfl rfl rfl (Y_move rfl rfl) ?_; clear hf; intro a hf
    refine sY hf hs rfl rfl rfl (Y_extract rfl rfl rfl) ?_; clear hf; intro a hf
    refine sY hf hs rfl rfl rfl (Y_extract rfl rfl rfl) ?_; clear hf; intro a hf
    refine sAlloc hf hs rfl rfl rfl rfl ti59 ?_; clear hf hs; intro a w b50 hs hf
    have hs : St [] W w [.row A6 n7 c8 127 4 ((recs GPlace.cells) r4.1.Places), .row A10 n11 c12 127 4 ((recs GPlace.cells) r4.2.Places), .blk b14 59 [.int .i64 r4.1.Events, .slice A6 n7 c8], .blk b15 59 [.int .i64 r4.2.Events, .slice A10 n11 c12], .row A18 n19 c20 127 4 ((recs GPlace.cells) r16.1.Places), .blk b22 59 [.int .i64 r16.1.Events, .slice A18 n19 c20], .row A25 n26 c27 127 4 ((recs GPlace.cells) r23.1.Places), .blk b29 59 [.int .i64 r23.1.Events, .slice A25 n26 c27], .row A32 n33 c34 127 4 ((recs GPlace.cells) r30.1.Places), .blk b36 59 [.int .i64 r30.1.Events, .slice A32 n33 c34], .row A39 n40 c41 127 4 ((recs GPlace.cells) r37.1.Places), .blk b43 59 [.int .i64 r37.1.Events, .slice A39 n40 c41], .row A46 n47 c48 127 4 ((recs GPlace.cells) r44.1.Places), .blk b50 59 [.int .i64 0, .slice none 0 0]] := hs
    refine sStore (i := 13) (us := [.int .i64 r44.1.Events, .slice A46 n47 c48]) hf hs rfl rfl rfl rfl rfl rfl ti59 rfl rfl rfl (Nat.le_of_ble_eq_true rfl) rfl ?_; clear hs; intro w hs
    have hs : St [] W w [.row A6 n7 c8 127 4 ((recs GPlace.cells) r4.1.Places), .row A10 n11 c12 127 4 ((recs GPlace.cells) r4.2.Places), .blk b14 59 [.int .i64 r4.1.Events, .slice A6 n7 c8], .blk b15 59 [.int .i64 r4.2.Events, .slice A10 n11 c12], .row A18 n19 c20 127 4 ((recs GPlace.cells) r16.1.Places), .blk b22 59 [.int .i64 r16.1.Events, .slice A18 n19 c20], .row A25 n26 c27 127 4 ((recs GPlace.cells) r23.1.Places), .blk b29 59 [.int .i64 r23.1.Events, .slice A25 n26 c27], .row A32 n33 c34 127 4 ((recs GPlace.cells) r30.1.Places), .blk b36 59 [.int .i64 r30.1.Events, .slice A32 n33 c34], .row A39 n40 c41 127 4 ((recs GPlace.cells) r37.1.Places), .blk b43 59 [.int .i64 r37.1.Events, .slice A39 n40 c41], .row A46 n47 c48 127 4 ((recs GPlace.cells) r44.1.Places), .blk b50 59 [.int .i64 r44.1.Events, .slice A46 n47 c48]] := hs
    refine sY hf hs rfl rfl rfl (Y_assign rfl rfl) ?_; clear hf; intro a hf
    refine wpO_nil ?_
    refine wpL_seq ?_
    refine wpL_region ?_
    refine sY hf hs rfl rfl rfl (Y_move rfl rfl) ?_; clear hf; intro a hf
    obtain ⟨r51, hc52, hm⟩ := bind_some hm
    refine sCall hf rfl rfl rfl rfl (cap := []) rfl rfl en47 (spec_DrawMergeEvents_ok F p0 A_p0_1 p0.length c_p0_1 rfl _ _ hc52 (h_p0_1.at hs)) ?_; clear hf
    rintro _ w ⟨A53, n54, c55, rfl, hn56, hs1⟩ a hf
    have hs : St [] W w [.row A6 n7 c8 127 4 ((recs GPlace.cells) r4.1.Places), .row A10 n11 c12 127 4 ((recs GPlace.cells) r4.2.Places), .blk b14 59 [.int .i64 r4.1.Events, .slice A6 n7 c8], .blk b15 59 [.int .i64 r4.2.Events, .slice A10 n11 c12], .row A18 n19 c20 127 4 ((recs GPlace.cells) r16.1.Places), .blk b22 59 [.int .i64 r16.1.Events, .slice A18 n19 c20], .row A25 n26 c27 127 4 ((recs GPlace.cells) r23.1.Places), .blk b29 59 [.int .i64 r23.1.Events, .slice A25 n26 c27], .row A32 n33 c34 127 4 ((recs GPlace.cells) r30.1.Places), .blk b36 59 [.int .i64 r30.1.Events, .slice A32 n33 c34], .row A39 n40 c41 127 4 ((recs GPlace.cells) r37.1.Places), .blk b43 59 [.int .i64 r37.1.Events, .slice A39 n40 c41], .row A46 n47 c48 127 4 ((recs GPlace.cells) r44.1.Places), .blk b50 59 [.int .i64 r44.1.Events, .slice A46 n47 c48], .row A53 n54 c55 127 4 ((recs GPlace.cells) r51.1.Places)] := hs.join hs1
    clear hs1
    refine sY hf hs rfl rfl rfl (Y_move rfl rfl) ?_; clear hf; intro a hf
    refine sY hf hs rfl rfl rfl (Y_extract rfl rfl rfl) ?_; clear hf; intro a hf
    refine sY hf hs rfl rfl rfl (Y_extract rfl rfl rfl) ?_; clear hf; intro a hf
    refine sY hf hs rfl rfl rfl (Y_extract rfl rfl rfl) ?_; clear hf; intro a hf
    refine sAlloc hf hs rfl rfl rfl rfl ti59 ?_; clear hf hs; intro a w b57 hs hf
    have hs : St [] W w [.row A6 n7 c8 127 4 ((recs GPlace.cells) r4.1.Places), .row A10 n11 c12 127 4 ((recs GPlace.cells) r4.2.Places), .blk b14 59 [.int .i64 r4.1.Events, .slice A6 n7 c8], .blk b15 59 [.int .i64 r4.2.Events, .slice A10 n11 c12], .row A18 n19 c20 127 4 ((recs GPlace.cells) r16.1.Places), .blk b22 59 [.int .i64 r16.1.Events, .slice A18 n19 c20], .row A25 n26 c27 127 4 ((recs GPlace.cells) r23.1.Places), .blk b29 59 [.int .i64 r23.1.Events, .slice A25 n26 c27], .row A32 n33 c34 127 4 ((recs GPlace.cells) r30.1.Places), .blk b36 59 [.int .i64 r30.1.Events, .slice A32 n33 c34], .row A39 n40 c41 127 4 ((recs GPlace.cells) r37.1.Places), .blk b43 59 [.int .i64 r37.1.Events, .slice A39 n40 c41], .row A46 n47 c48 127 4 ((recs GPlace.cells) r44.1.Places), .blk b50 59 [.int .i64 r44.1.Events, .slice A46 n47 c48], .row A53 n54 c55 127 4 ((recs GPlace.cells) r51.1.Places), .blk b57 59 [.int .i64 0, .slice none 0 0]] := hs
    refine sStore (i := 15) (us := [.int .i64 r51.1.Events, .slice A53 n54 c55]) hf hs rfl rfl rfl rfl rfl rfl ti59 rfl rfl rfl (Nat.le_of_ble_eq_true rfl) rfl ?_; clear hs; intro w hs
    have hs : St [] W w [.row A6 n7 c8 127 4 ((recs GPlace.cells) r4.1.Places), .row A10 n11 c12 127 4 ((recs GPlace.cells) r4.2.Places), .blk b14 59 [.int .i64 r4.1.Events, .slice A6 n7 c8], .blk b15 59 [.int .i64 r4.2.Events, .slice A10 n11 c12], .row A18 n19 c20 127 4 ((recs GPlace.cells) r16.1.Places), .blk b22 59 [.int .i64 r16.1.Events, .slice A18 n19 c20], .row A25 n26 c27 127 4 ((recs GPlace.cells) r23.1.Places), .blk b29 59 [.int .i64 r23.1.Events, .slice A25 n26 c27], .row A32 n33 c34 127 4 ((recs GPlace.cells) r30.1.Places), .blk b36 59 [.int .i64 r30.1.Events, .slice A32 n33 c34], .row A39 n40 c41 127 4 ((recs GPlace.cells) r37.1.Places), .blk b43 59 [.int .i64 r37.1.Events, .slice A39 n40 c41], .row A46 n47 c48 127 4 ((recs GPlace.cells) r44.1.Places), .blk b50 59 [.int .i64 r44.1.Events, .slice A46 n47 c48], .row A53 n54 c55 127 4 ((recs GPlace.cells) r51.1.Places), .blk b57 59 [.int .i64 r51.1.Events, .slice A53 n54 c55]] := hs
    refine sY hf hs rfl rfl rfl (Y_assign rfl rfl) ?_; clear hf; intro a hf
    refine sY hf hs rfl rfl rfl (Y_assign rfl rfl) ?_; clear hf; intro a hf
    refine wpO_nil ?_
    refine wpL_seq ?_
    refine wpL_region ?_
    refine sY hf hs rfl rfl rfl (Y_load_blkS rfl rfl (i := 15) rfl ag59 ti59 rfl) ?_; clear hf; intro a hf
    refine sY hf hs rfl rfl rfl (Y_move rfl rfl) ?_; clear hf; intro a hf
    refine sY hf hs rfl rfl rfl (Y_move rfl rfl) ?_; clear hf; intro a hf
    obtain ⟨r58, hc59, hm⟩ := bind_some hm
    refine sCall hf rfl rfl rfl rfl (cap := []) rfl rfl en48 (impl_MergeEvents_ok F (GEventGraph.mk r51.1.Events r51.1.Places) A53 n54 c55 hn56 r51.2.1 r51.2.2 _ _ hc59 (hs.rd (i := 14) rfl)) ?_; clear hf
    rintro _ w ⟨A60, n61, c62, rfl, hn63, hs1⟩ a hf
    have hs : St [] W w [.row A6 n7 c8 127 4 ((recs GPlace.cells) r4.1.Places), .row A10 n11 c12 127 4 ((recs GPlace.cells) r4.2.Places), .blk b14 59 [.int .i64 r4.1.Events, .slice A6 n7 c8], .blk b15 59 [.int .i64 r4.2.Events, .slice A10 n11 c12], .row A18 n19 c20 127 4 ((recs GPlace.cells) r16.1.Places), .blk b22 59 [.int .i64 r16.1.Events, .slice A18 n19 c20], .row A25 n26 c27 127 4 ((recs GPlace.cells) r23.1.Places), .blk b29 59 [.int .i64 r23.1.Events, .slice A25 n26 c27], .row A32 n33 c34 127 4 ((recs GPlace.cells) r30.1.Places), .blk b36 59 [.int .i64 r30.1.Events, .slice A32 n33 c34], .row A39 n40 c41 127 4 ((recs GPlace.cells) r37.1.Places), .blk b43 59 [.int .i64 r37.1.Events, .slice A39 n40 c41], .row A46 n47 c48 127 4 ((recs GPlace.cells) r44.1.Places), .blk b50 59 [.int .i64 r44.1.Events, .slice A46 n47 c48], .row A53 n54 c55 127 4 ((recs GPlace.cells) r51.1.Places), .blk b57 59 [.int .i64 r51.1.Events, .slice A53 n54 c55], .row A60 n61 c62 127 4 ((recs GPlace.cells) r58.1.Places)] := hs.join hs1
    clear hs1
    refine sY hf hs rfl rfl rfl (Y_move rfl rfl) ?_; clear hf; intro a hf
    refine sY hf hs rfl rfl rfl (Y_extract rfl rfl rfl) ?_; clear hf; intro a hf
    refine sY hf hs rfl rfl rfl (Y_extract rfl rfl rfl) ?_; clear hf; intro a hf
    refine sAlloc hf hs rfl rfl rfl rfl ti59 ?_; clear hf hs; intro a w b64 hs hf
    have hs : St [] W w [.row A6 n7 c8 127 4 ((recs GPlace.cells) r4.1.Places), .row A10 n11 c12 127 4 ((recs GPlace.cells) r4.2.Places), .blk b14 59 [.int .i64 r4.1.Events, .slice A6 n7 c8], .blk b15 59 [.int .i64 r4.2.Events, .slice A10 n11 c12], .row A18 n19 c20 127 4 ((recs GPlace.cells) r16.1.Places), .blk b22 59 [.int .i64 r16.1.Events, .slice A18 n19 c20], .row A25 n26 c27 127 4 ((recs GPlace.cells) r23.1.Places), .blk b29 59 [.int .i64 r23.1.Events, .slice A25 n26 c27], .row A32 n33 c34 127 4 ((recs GPlace.cells) r30.1.Places), .blk b36 59 [.int .i64 r30.1.Events, .slice A32 n33 c34], .row A39 n40 c41 127 4 ((recs GPlace.cells) r37.1.Places), .blk b43 59 [.int .i64 r37.1.Events, .slice A39 n40 c41], .row A46 n47 c48 127 4 ((recs GPlace.cells) r44.1.Places), .blk b50 59 [.int .i64 r44.1.Events, .slice A46 n47 c48], .row A53 n54 c55 127 4 ((recs GPlace.cells) r51.1.Places), .blk b57 59 [.int .i64 r51.1.Events, .slice A53 n54 c55], .row A60 n61 c62 127 4 ((recs GPlace.cells) r58.1.Places), .blk b64 59 [.int .i64 0, .slice none 0 0]] := hs
    refine sStore (i := 17) (us := [.int .i64 r58.1.Events, .slice A60 n61 c62]) hf hs rfl rfl rfl rfl rfl rfl ti59 rfl rfl rfl (Nat.le_of_ble_eq_true rfl) rfl ?_; clear hs; intro w hs
    have hs : St [] W w [.row A6 n7 c8 127 4 ((recs GPlace.cells) r4.1.Places), .row A10 n11 c12 127 4 ((recs GPlace.cells) r4.2.Places), .blk b14 59 [.int .i64 r4.1.Events, .slice A6 n7 c8], .blk b15 59 [.int .i64 r4.2.Events, .slice A10 n11 c12], .row A18 n19 c20 127 4 ((recs GPlace.cells) r16.1.Places), .blk b22 59 [.int .i64 r16.1.Events, .slice A18 n19 c20], .row A25 n26 c27 127 4 ((recs GPlace.cells) r23.1.Places), .blk b29 59 [.int .i64 r23.1.Events, .slice A25 n26 c27], .row A32 n33 c34 127 4 ((recs GPlace.cells) r30.1.Places), .blk b36 59 [.int .i64 r30.1.Events, .slice A32 n33 c34], .row A39 n40 c41 127 4 ((recs GPlace.cells) r37.1.Places), .blk b43 59 [.int .i64 r37.1.Events, .slice A39 n40 c41], .row A46 n47 c48 127 4 ((recs GPlace.cells) r44.1.Places), .blk b50 59 [.int .i64 r44.1.Events, .slice A46 n47 c48], .row A53 n54 c55 127 4 ((recs GPlace.cells) r51.1.Places), .blk b57 59 [.int .i64 r51.1.Events, .slice A53 n54 c55], .row A60 n61 c62 127 4 ((recs GPlace.cells) r58.1.Places), .blk b64 59 [.int .i64 r58.1.Events, .slice A60 n61 c62]] := hs
    refine sY hf hs rfl rfl rfl (Y_assign rfl rfl) ?_; clear hf; intro a hf
    refine wpO_nil ?_
    refine wpL_seq ?_
    refine wpL_region ?_
    refine sY hf hs rfl rfl rfl (Y_load_blkS rfl rfl (i := 15) rfl ag59 ti59 rfl) ?_; clear hf; intro a hf
    refine sY hf hs rfl rfl rfl (Y_move rfl rfl) ?_; clear hf; intro a hf
    refine sY hf hs rfl rfl rfl (Y_move rfl rfl) ?_; clear hf; intro a hf
    obtain ⟨r65, hc66, hm⟩ := bind_some hm
    refine sCall hf rfl rfl rfl rfl (cap := []) rfl rfl en49 (spec_MergeEvents_ok F (GEventGraph.mk r51.1.Events r51.1.Places) A53 n54 c55 hn56 r51.2.1 r51.2.2 _ _ hc66 (hs.rd (i := 14) rfl)) ?_; clear hf
    rintro _ w ⟨A67, n68, c69, rfl, hn70, hs1⟩ a hf
    have hs : St [] W w [.row A6 n7 c8 127 4 ((recs GPlace.cells) r4.1.Places), .row A10 n11 c12 127 4 ((recs GPlace.cells) r4.2.Places), .blk b14 59 [.int .i64 r4.1.Events, .slice A6 n7 c8], .blk b15 59 [.int .i64 r4.2.Events, .slice A10 n11 c12], .row A18 n19 c20 127 4 ((recs GPlace.cells) r16.1.Places), .blk b22 59 [.int .i64 r16.1.Events, .slice A18 n19 c20], .row A25 n26 c27 127 4 ((recs GPlace.cells) r23.1.Places), .blk b29 59 [.int .i64 r23.1.Events, .slice A25 n26 c27], .row A32 n33 c34 127 4 ((recs GPlace.cells) r30.1.Places), .blk b36 59 [.int .i64 r30.1.Events, .slice A32 n33 c34], .row A39 n40 c41 127 4 ((recs GPlace.cells) r37.1.Places), .blk b43 59 [.int .i64 r37.1.Events, .slice A39 n40 c41], .row A46 n47 c48 127 4 ((recs GPlace.cells) r44.1.Places), .blk b50 59 [.int .i64 r44.1.Events, .slice A46 n47 c48], .row A53 n54 c55 127 4 ((recs GPlace.cells) r51.1.Places), .blk b57 59 [.int .i64 r51.1.Events, .slice A53 n54 c55], .row A60 n61 c62 127 4 ((recs GPlace.cells) r58.1.Places), .blk b64 59 [.int .i64 r58.1.Events, .slice A60 n61 c62], .row A67 n68 c69 127 4 ((recs GPlace.cells) r65.1.Places)] := hs.join hs1
    clear hs1
    refine sY hf hs rfl rfl rfl (Y_move rfl rfl) ?_; clear hf; intro a hf
    refine sY hf hs rfl rfl rfl (Y_extract rfl rfl rfl) ?_; clear hf; intro a hf
    refine sY hf hs rfl rfl rfl (Y_extract rfl rfl rfl) ?_; clear hf; intro a hf
    refine sAlloc hf hs rfl rfl rfl rfl ti59 ?_; clear hf hs; intro a w b71 hs hf
    have hs : St [] W w [.row A6 n7 c8 127 4 ((recs GPlace.cells) r4.1.Places), .row A10 n11 c12 127 4 ((recs GPlace.cells) r4.2.Places), .blk b14 59 [.int .i64 r4.1.Events, .slice A6 n7 c8], .blk b15 59 [.int .i64 r4.2.Events, .slice A10 n11 c12], .row A18 n19 c20 127 4 ((recs GPlace.cells) r16.1.Places), .blk b22 59 [.int .i64 r16.1.Events, .slice A18 n19 c20], .row A25 n26 c27 127 4 ((recs GPlace.cells) r23.1.Places), .blk b29 59 [.int .i64 r23.1.Events, .slice A25 n26 c27], .row A32 n33 c34 127 4 ((recs GPlace.cells) r30.1.Places), .blk b36 59 [.int .i64 r30.1.Events, .slice A32 n33 c34], .row A39 n40 c41 127 4 ((recs GPlace.cells) r37.1.Places), .blk b43 59 [.int .i64 r37.1.Events, .slice A39 n40 c41], .row A46 n47 c48 127 4 ((recs GPlace.cells) r44.1.Places), .blk b50 59 [.int .i64 r44.1.Events, .slice A46 n47 c48], .row A53 n54 c55 127 4 ((recs GPlace.cells) r51.1.Places), .blk b57 59 [.int .i64 r51.1.Events, .slice A53 n54 c55], .row A60 n61 c62 127 4 ((recs GPlace.cells) r58.1.Places), .blk b64 59 [.int .i64 r58.1.Events, .slice A60 n61 c62], .row A67 n68 c69 127 4 ((recs GPlace.cells) r65.1.Places), .blk b71 59 [.int .i64 0, .slice none 0 0]] := hs
    refine sStore (i := 19) (us := [.int .i64 r65.1.Events, .slice A67 n68 c69]) hf hs rfl rfl rfl rfl rfl rfl ti59 rfl rfl rfl (Nat.le_of_ble_eq_true rfl) rfl ?_; clear hs; intro w hs
    have hs : St [] W w [.row A6 n7 c8 127 4 ((recs GPlace.cells) r4.1.Places), .row A10 n11 c12 127 4 ((recs GPlace.cells) r4.2.Places), .blk b14 59 [.int .i64 r4.1.Events, .slice A6 n7 c8], .blk b15 59 [.int .i64 r4.2.Events, .slice A10 n11 c12], .row A18 n19 c20 127 4 ((recs GPlace.cells) r16.1.Places), .blk b22 59 [.int .i64 r16.1.Events, .slice A18 n19 c20], .row A25 n26 c27 127 4 ((recs GPlace.cells) r23.1.Places), .blk b29 59 [.int .i64 r23.1.Events, .slice A25 n26 c27], .row A32 n33 c34 127 4 ((recs GPlace.cells) r30.1.Places), .blk b36 59 [.int .i64 r30.1.Events, .slice A32 n33 c34], .row A39 n40 c41 127 4 ((recs GPlace.cells) r37.1.Places), .blk b43 59 [.int .i64 r37.1.Events, .slice A39 n40 c41], .row A46 n47 c48 127 4 ((recs GPlace.cells) r44.1.Places), .blk b50 59 [.int .i64 r44.1.Events, .slice A46 n47 c48], .row A53 n54 c55 127 4 ((recs GPlace.cells) r51.1.Places), .blk b57 59 [.int .i64 r51.1.Events, .slice A53 n54 c55], .row A60 n61 c62 127 4 ((recs GPlace.cells) r58.1.Places), .blk b64 59 [.int .i64 r58.1.Events, .slice A60 n61 c62], .row A67 n68 c69 127 4 ((recs GPlace.cells) r65.1.Places), .blk b71 59 [.int .i64 r65.1.Events, .slice A67 n68 c69]] := hs
    refine sY hf hs rfl rfl rfl (Y_assign rfl rfl) ?_; clear hf; intro a hf
    refine wpO_nil ?_
    refine wpL_seq ?_
    refine wpL_seq ?_
    obtain ⟨r84, hj85, hm⟩ := bind_some hm
    refine wpL_cut (fun a w => ∃ b83 : Bool, b83 = r84 ∧ Fr a 240 [(3, .pointer (some ⟨b14, 0, none⟩)), (4, .pointer (some ⟨b15, 0, none⟩)), (5, .pointer (some ⟨b22, 0, none⟩)), (6, .int .i64 r16.2), (9, .pointer (some ⟨b36, 0, none⟩)), (12, .pointer (some ⟨b43, 0, none⟩)), (13, .int .i64 r37.2), (16, .pointer (some ⟨b57, 0, none⟩)), (19, .pointer (some ⟨b64, 0, none⟩)), (20, .int .i64 r58.2), (124, .bool b83)] ∧ St [] W w [.blk b14 59 [.int .i64 r4.1.Events, .slice A6 n7 c8], .row A6 n7 c8 127 4 ((recs GPlace.cells) r4.1.Places), .blk b15 59 [.int .i64 r4.2.Events, .slice A10 n11 c12], .row A10 n11 c12 127 4 ((recs GPlace.cells) r4.2.Places), .blk b22 59 [.int .i64 r16.1.Events, .slice A18 n19 c20], .row A18 n19 c20 127 4 ((recs GPlace.cells) r16.1.Places), .blk b36 59 [.int .i64 r30.1.Events, .slice A32 n33 c34], .row A32 n33 c34 127 4 ((recs GPlace.cells) r30.1.Places), .blk b43 59 [.int .i64 r37.1.Events, .slice A39 n40 c41], .row A39 n40 c41 127 4 ((recs GPlace.cells) r37.1.Places), .blk b57 59 [.int .i64 r51.1.Events, .slice A53 n54 c55], .row A53 n54 c55 127 4 ((recs GPlace.cells) r51.1.Places), .blk b64 59 [.int .i64 r58.1.Events, .slice A60 n61 c62], .row A60 n61 c62 127 4 ((recs GPlace.cells) r58.1.Places)]) ?_ ?_
    · refine wpL_region ?_
      refine sY hf hs rfl rfl rfl (Y_move rfl rfl) ?_; clear hf; intro a hf
      refine sY hf hs rfl rfl rfl (Y_move rfl rfl) ?_; clear hf; intro a hf
      refine sY hf hs rfl rfl rfl (Y_neq rfl rfl rfl) ?_; clear hf; intro a hf
      refine sY hf hs rfl rfl rfl (Y_move rfl rfl) ?_; clear hf; intro a hf
      refine bsplit (r16.2 != r23.2) (fun hb86 => ?_) (fun hb86 => ?_)
      · have hj85 := bif_t hj85 hb86
        refine sNo hf rfl rfl rfl (congrArg (fun b => some (Value.bool b)) hb86) rfl rfl rfl ?_; clear hf; intro a hf
        refine sNo hf rfl rfl rfl (congrArg (fun b => some (Value.bool b)) hb86) rfl rfl rfl ?_; clear hf; intro a hf
        refine sNo hf rfl rfl rfl (congrArg (fun b => some (Value.bool b)) hb86) rfl rfl rfl ?_; clear hf; intro a hf
        refine sNo hf rfl rfl rfl (congrArg (fun b => some (Value.bool b)) hb86) rfl rfl rfl ?_; clear hf; intro a hf
        refine sY hf hs rfl rfl rfl (Y_pickT rfl (congrArg (fun b => some (Value.bool b)) hb86) rfl) ?_; clear hf; intro a hf
        refine sY hf hs rfl rfl rfl (Y_move rfl rfl) ?_; clear hf; intro a hf
        refine sNo hf rfl rfl rfl rfl rfl rfl rfl ?_; clear hf; intro a hf
        refine sNo hf rfl rfl rfl rfl rfl rfl rfl ?_; clear hf; intro a hf
        refine sNo hf rfl rfl rfl rfl rfl rfl rfl ?_; clear hf; intro a hf
        refine sY hf hs rfl rfl rfl (Y_pickT rfl rfl rfl) ?_; clear hf; intro a hf
        refine sY hf hs rfl rfl rfl (Y_move rfl rfl) ?_; clear hf; intro a hf
        refine sNo hf rfl rfl rfl rfl rfl rfl rfl ?_; clear hf; intro a hf
        refine sNo hf rfl rfl rfl rfl rfl rfl rfl ?_; clear hf; intro a hf
        refine sNo hf rfl rfl rfl rfl rfl rfl rfl ?_; clear hf; intro a hf
        refine sNo hf rfl rfl rfl rfl rfl rfl rfl ?_; clear hf; intro a hf
        refine sY hf hs rfl rfl rfl (Y_pickT rfl rfl rfl) ?_; clear hf; intro a hf
        refine sY hf hs rfl rfl rfl (Y_move rfl rfl) ?_; clear hf; intro a hf
        refine sNo hf rfl rfl rfl rfl rfl rfl rfl ?_; clear hf; intro a hf
        refine sNo hf rfl rfl rfl rfl rfl rfl rfl ?_; clear hf; intro a hf
        refine sNo hf rfl rfl rfl rfl rfl rfl rfl ?_; clear hf; intro a hf
        refine sY hf hs rfl rfl rfl (Y_pickT rfl rfl rfl) ?_; clear hf; intro a hf
        refine sY hf hs rfl rfl rfl (Y_move rfl rfl) ?_; clear hf; intro a hf
        refine sNo hf rfl rfl rfl rfl rfl rfl rfl ?_; clear hf; intro a hf
        refine sNo hf rfl rfl rfl rfl rfl rfl rfl ?_; clear hf; intro a hf
        refine sNo hf rfl rfl rfl rfl rfl rfl rfl ?_; clear hf; intro a hf
        refine sNo hf rfl rfl rfl rfl rfl rfl rfl ?_; clear hf; intro a hf
        refine sY hf hs rfl rfl rfl (Y_pickT rfl rfl rfl) ?_; clear hf; intro a hf
        refine wpO_nil ?_
        refine wpL_nil (then_normal ?_)
        exact ⟨true, Option.some.inj hj85, (FrD.pick (FrD.pick (FrD.pick (FrD.pick (FrD.pick (FrD.pick (FrD.pick (FrD.pick (FrD.pick (FrD.pick (FrD.pick hf.none hf rfl) hf rfl) hf rfl) hf rfl) hf rfl) hf rfl) hf rfl) hf rfl) hf rfl) hf rfl) hf rfl), hs.sel [2, 0, 3, 1, 5, 4, 9, 8, 11, 10, 15, 14, 17, 16] (by decide)⟩
      · have hj85 := bif_f hj85 hb86
        refine sYg hf hs rfl rfl rfl (congrArg (fun b => some (Value.bool b)) hb86) rfl rfl rfl (Y_load_blkS rfl rfl (i := 5) rfl ag59 ti59 rfl) ?_; clear hf; intro a hf
        refine sYg hf hs rfl rfl rfl (congrArg (fun b => some (Value.bool b)) hb86) rfl rfl rfl (Y_load_blkS rfl rfl (i := 7) rfl ag59 ti59 rfl) ?_; clear hf; intro a hf
        obtain ⟨r87, hc88, hj85⟩ := bind_some hj85
        refine sCallg hf rfl rfl rfl (congrArg (fun b => some (Value.bool b)) hb86) rfl rfl rfl rfl (cap := []) rfl rfl en50 (laws_likeGraphs9_ok F (GEventGraph.mk r16.1.Events r16.1.Places) A18 n19 c20 hn21 (GEventGraph.mk r23.1.Events r23.1.Places) A25 n26 c27 hn28 _ _ hc88 (hs.rd (i := 4) rfl) (hs.rd (i := 6) rfl)) ?_; clear hf
        rintro _ w ⟨rfl, hs1⟩ a hf
        have hs : St [] W w [.row A6 n7 c8 127 4 ((recs GPlace.cells) r4.1.Places), .row A10 n11 c12 127 4 ((recs GPlace.cells) r4.2.Places), .blk b14 59 [.int .i64 r4.1.Events, .slice A6 n7 c8], .blk b15 59 [.int .i64 r4.2.Events, .slice A10 n11 c12], .row A18 n19 c20 127 4 ((recs GPlace.cells) r16.1.Places), .blk b22 59 [.int .i64 r16.1.Events, .slice A18 n19 c20], .row A25 n26 c27 127 4 ((recs GPlace.cells) r23.1.Places), .blk b29 59 [.int .i64 r23.1.Events, .slice A25 n26 c27], .row A32 n33 c34 127 4 ((recs GPlace.cells) r30.1.Places), .blk b36 59 [.int .i64 r30.1.Events, .slice A32 n33 c34], .row A39 n40 c41 127 4 ((recs GPlace.cells) r37.1.Places), .blk b43 59 [.int .i64 r37.1.Events, .slice A39 n40 c41], .row A46 n47 c48 127 4 ((recs GPlace.cells) r44.1.Places), .blk b50 59 [.int .i64 r44.1.Events, .slice A46 n47 c48], .row A53 n54 c55 127 4 ((recs GPlace.cells) r51.1.Places), .blk b57 59 [.int .i64 r51.1.Events, .slice A53 n54 c55], .row A60 n61 c62 127 4 ((recs GPlace.cells) r58.1.Places), .blk b64 59 [.int .i64 r58.1.Events, .slice A60 n61 c62], .row A67 n68 c69 127 4 ((recs GPlace.cells) r65.1.Places), .blk b71 59 [.int .i64 r65.1.Events, .slice A67 n68 c69]] := hs.ext hs1.below
        clear hs1
        refine sYg hf hs rfl rfl rfl (congrArg (fun b => some (Value.bool b)) hb86) rfl rfl rfl (Y_not rfl rfl) ?_; clear hf; intro a hf
        refine sY hf hs rfl rfl rfl (Y_pickF rfl (congrArg (fun b => some (Value.bool b)) hb86) rfl) ?_; clear hf; intro a hf
        refine sY hf hs rfl rfl rfl (Y_move rfl rfl) ?_; clear hf; intro a hf
        refine bsplit (!r87) (fun hb89 => ?_) (fun hb89 => ?_)
        · have hj85 := bif_t hj85 hb89
          refine sNo hf rfl rfl rfl (congrArg (fun b => some (Value.bool b)) hb89) rfl rfl rfl ?_; clear hf; intro a hf
          refine sNo hf rfl rfl rfl (congrArg (fun b => some (Value.bool b)) hb89) rfl rfl rfl ?_; clear hf; intro a hf
          refine sNo hf rfl rfl rfl (congrArg (fun b => some (Value.bool b)) hb89) rfl rfl rfl ?_; clear hf; intro a hf
          refine sY hf hs rfl rfl rfl (Y_pickT rfl (congrArg (fun b => some (Value.bool b)) hb89) rfl) ?_; clear hf; intro a hf
          refine sY hf hs rfl rfl rfl (Y_move rfl rfl) ?_; clear hf; intro a hf
          refine sNo hf rfl rfl rfl rfl rfl rfl rfl ?_; clear hf; intro a hf
          refine sNo hf rfl rfl rfl rfl rfl rfl rfl ?_; clear hf; intro a hf
          refine sNo hf rfl rfl rfl rfl rfl rfl rfl ?_; clear hf; intro a hf
          refine sNo hf rfl rfl rfl rfl rfl rfl rfl ?_; clear hf; intro a hf
          refine sY hf hs rfl rfl rfl (Y_pickT rfl rfl rfl) ?_; clear hf; intro a hf
          refine sY hf hs rfl rfl rfl (Y_move rfl rfl) ?_; clear hf; intro a hf
          refine sNo hf rfl rfl rfl rfl rfl rfl rfl ?_; clear hf; intro a hf
          refine sNo hf rfl rfl rfl rfl rfl rfl rfl ?_; clear hf; intro a hf
          refine sNo hf rfl rfl rfl rfl rfl rfl rfl ?_; clear hf; intro a hf
          refine sY hf hs rfl rfl rfl (Y_pickT rfl rfl rfl) ?_; clear hf; intro a hf
          refine sY hf hs rfl rfl rfl (Y_move rfl rfl) ?_; clear hf; intro a hf
          refine sNo hf rfl rfl rfl rfl rfl rfl rfl ?_; clear hf; intro a hf
          refine sNo hf rfl rfl rfl rfl rfl rfl rfl ?_; clear hf; intro a hf
          refine sNo hf rfl rfl rfl rfl rfl rfl rfl ?_; clear hf; intro a hf
          refine sNo hf rfl rfl rfl rfl rfl rfl rfl ?_; clear hf; intro a hf
          refine sY hf hs rfl rfl rfl (Y_pickT rfl rfl rfl) ?_; clear hf; intro a hf
          refine wpO_nil ?_
          refine wpL_nil (then_normal ?_)
          exact ⟨true, Option.some.inj hj85, (FrD.pick (FrD.pick (FrD.pick (FrD.pick (FrD.pick (FrD.pick (FrD.pick (FrD.pick (FrD.pick (FrD.pick (FrD.pick hf.none hf rfl) hf rfl) hf rfl) hf rfl) hf rfl) hf rfl) hf rfl) hf rfl) hf rfl) hf rfl) hf rfl), hs.sel [2, 0, 3, 1, 5, 4, 9, 8, 11, 10, 15, 14, 17, 16] (by decide)⟩
        · have hj85 := bif_f hj85 hb89
          refine sYg hf hs rfl rfl rfl (congrArg (fun b => some (Value.bool b)) hb89) rfl rfl rfl (Y_move rfl rfl) ?_; clear hf; intro a hf
          refine sYg hf hs rfl rfl rfl (congrArg (fun b => some (Value.bool b)) hb89) rfl rfl rfl (Y_move rfl rfl) ?_; clear hf; intro a hf
          refine sYg hf hs rfl rfl rfl (congrArg (fun b => some (Value.bool b)) hb89) rfl rfl rfl (Y_neq rfl rfl rfl) ?_; clear hf; intro a hf
          refine sY hf hs rfl rfl rfl (Y_pickF rfl (congrArg (fun b => some (Value.bool b)) hb89) rfl) ?_; clear hf; intro a hf
          refine sY hf hs rfl rfl rfl (Y_move rfl rfl) ?_; clear hf; intro a hf
          refine bsplit (r37.2 != r44.2) (fun hb90 => ?_) (fun hb90 => ?_)
          · have hj85 := bif_t hj85 hb90
            refine sNo hf rfl rfl rfl (congrArg (fun b => some (Value.bool b)) hb90) rfl rfl rfl ?_; clear hf; intro a hf
            refine sNo hf rfl rfl rfl (congrArg (fun b => some (Value.bool b)) hb90) rfl rfl rfl ?_; clear hf; intro a hf
            refine sNo hf rfl rfl rfl (congrArg (fun b => some (Value.bool b)) hb90) rfl rfl rfl ?_; clear hf; intro a hf
            refine sNo hf rfl rfl rfl (congrArg (fun b => some (Value.bool b)) hb90) rfl rfl rfl ?_; clear hf; intro a hf
            refine sY hf hs rfl rfl rfl (Y_pickT rfl (congrArg (fun b => some (Value.bool b)) hb90) rfl) ?_; clear hf; intro a hf
            refine sY hf hs rfl rfl rfl (Y_move rfl rfl) ?_; clear hf; intro a hf
            refine sNo hf rfl rfl rfl rfl rfl rfl rfl ?_; clear hf; intro a hf
            refine sNo hf rfl rfl rfl rfl rfl rfl rfl ?_; clear hf; intro a hf
            refine sNo hf rfl rfl rfl rfl rfl rfl rfl ?_; clear hf; intro a hf
            refine sY hf hs rfl rfl rfl (Y_pickT rfl rfl rfl) ?_; clear hf; intro a hf
            refine sY hf hs rfl rfl rfl (Y_move rfl rfl) ?_; clear hf; intro a hf
            refine sNo hf rfl rfl rfl rfl rfl rfl rfl ?_; clear hf; intro a hf
            refine sNo hf rfl rfl rfl rfl rfl rfl rfl ?_; clear hf; intro a hf
            refine sNo hf rfl rfl rfl rfl rfl rfl rfl ?_; clear hf; intro a hf
            refine sNo hf rfl rfl rfl rfl rfl rfl rfl ?_; clear hf; intro a hf
            refine sY hf hs rfl rfl rfl (Y_pickT rfl rfl rfl) ?_; clear hf; intro a hf
            refine wpO_nil ?_
            refine wpL_nil (then_normal ?_)
            exact ⟨true, Option.some.inj hj85, (FrD.pick (FrD.pick (FrD.pick (FrD.pick (FrD.pick (FrD.pick (FrD.pick (FrD.pick (FrD.pick (FrD.pick (FrD.pick hf.none hf rfl) hf rfl) hf rfl) hf rfl) hf rfl) hf rfl) hf rfl) hf rfl) hf rfl) hf rfl) hf rfl), hs.sel [2, 0, 3, 1, 5, 4, 9, 8, 11, 10, 15, 14, 17, 16] (by decide)⟩
          · have hj85 := bif_f hj85 hb90
            refine sYg hf hs rfl rfl rfl (congrArg (fun b => some (Value.bool b)) hb90) rfl rfl rfl (Y_load_blkS rfl rfl (i := 11) rfl ag59 ti59 rfl) ?_; clear hf; intro a hf
            refine sYg hf hs rfl rfl rfl (congrArg (fun b => some (Value.bool b)) hb90) rfl rfl rfl (Y_load_blkS rfl rfl (i := 13) rfl ag59 ti59 rfl) ?_; clear hf; intro a hf
            obtain ⟨r91, hc92, hj85⟩ := bind_some hj85
            refine sCallg hf rfl rfl rfl (congrArg (fun b => some (Value.bool b)) hb90) rfl rfl rfl rfl (cap := []) rfl rfl en50 (laws_likeGraphs9_ok F (GEventGraph.mk r37.1.Events r37.1.Places) A39 n40 c41 hn42 (GEventGraph.mk r44.1.Events r44.1.Places) A46 n47 c48 hn49 _ _ hc92 (hs.rd (i := 10) rfl) (hs.rd (i := 12) rfl)) ?_; clear hf
            rintro _ w ⟨rfl, hs1⟩ a hf
            have hs : St [] W w [.row A6 n7 c8 127 4 ((recs GPlace.cells) r4.1.Places), .row A10 n11 c12 127 4 ((recs GPlace.cells) r4.2.Places), .blk b14 59 [.int .i64 r4.1.Events, .slice A6 n7 c8], .blk b15 59 [.int .i64 r4.2.Events, .slice A10 n11 c12], .row A18 n19 c20 127 4 ((recs GPlace.cells) r16.1.Places), .blk b22 59 [.int .i64 r16.1.Events, .slice A18 n19 c20], .row A25 n26 c27 127 4 ((recs GPlace.cells) r23.1.Places), .blk b29 59 [.int .i64 r23.1.Events, .slice A25 n26 c27], .row A32 n33 c34 127 4 ((recs GPlace.cells) r30.1.Places), .blk b36 59 [.int .i64 r30.1.Events, .slice A32 n33 c34], .row A39 n40 c41 127 4 ((recs GPlace.cells) r37.1.Places), .blk b43 59 [.int .i64 r37.1.Events, .slice A39 n40 c41], .row A46 n47 c48 127 4 ((recs GPlace.cells) r44.1.Places), .blk b50 59 [.int .i64 r44.1.Events, .slice A46 n47 c48], .row A53 n54 c55 127 4 ((recs GPlace.cells) r51.1.Places), .blk b57 59 [.int .i64 r51.1.Events, .slice A53 n54 c55], .row A60 n61 c62 127 4 ((recs GPlace.cells) r58.1.Places), .blk b64 59 [.int .i64 r58.1.Events, .slice A60 n61 c62], .row A67 n68 c69 127 4 ((recs GPlace.cells) r65.1.Places), .blk b71 59 [.int .i64 r65.1.Events, .slice A67 n68 c69]] := hs.ext hs1.below
            clear hs1
            refine sYg hf hs rfl rfl rfl (congrArg (fun b => some (Value.bool b)) hb90) rfl rfl rfl (Y_not rfl rfl) ?_; clear hf; intro a hf
            refine sY hf hs rfl rfl rfl (Y_pickF rfl (congrArg (fun b => some (Value.bool b)) hb90) rfl) ?_; clear hf; intro a hf
            refine sY hf hs rfl rfl rfl (Y_move rfl rfl) ?_; clear hf; intro a hf
            refine bsplit (!r91) (fun hb93 => ?_) (fun hb93 => ?_)
            · have hj85 := bif_t hj85 hb93
              refine sNo hf rfl rfl rfl (congrArg (fun b => some (Value.bool b)) hb93) rfl rfl rfl ?_; clear hf; intro a hf
              refine sNo hf rfl rfl rfl (congrArg (fun b => some (Value.bool b)) hb93) rfl rfl rfl ?_; clear hf; intro a hf
              refine sNo hf rfl rfl rfl (congrArg (fun b => some (Value.bool b)) hb93) rfl rfl rfl ?_; clear hf; intro a hf
              refine sY hf hs rfl rfl rfl (Y_pickT rfl (congrArg (fun b => some (Value.bool b)) hb93) rfl) ?_; clear hf; intro a hf
              refine sY hf hs rfl rfl rfl (Y_move rfl rfl) ?_; clear hf; intro a hf
              refine sNo hf rfl rfl rfl rfl rfl rfl rfl ?_; clear hf; intro a hf
              refine sNo hf rfl rfl rfl rfl rfl rfl rfl ?_; clear hf; intro a hf
              refine sNo hf rfl rfl rfl rfl rfl rfl rfl ?_; clear hf; intro a hf
              refine sNo hf rfl rfl rfl rfl rfl rfl rfl ?_; clear hf; intro a hf
              refine sY hf hs rfl rfl rfl (Y_pickT rfl rfl rfl) ?_; clear hf; intro a hf
              refine wpO_nil ?_
              refine wpL_nil (then_normal ?_)
              exact ⟨true, Option.some.inj hj85, (FrD.pick (FrD.pick (FrD.pick (FrD.pick (FrD.pick (FrD.pick (FrD.pick (FrD.pick (FrD.pick (FrD.pick (FrD.pick hf.none hf rfl) hf rfl) hf rfl) hf rfl) hf rfl) hf rfl) hf rfl) hf rfl) hf rfl) hf rfl) hf rfl), hs.sel [2, 0, 3, 1, 5, 4, 9, 8, 11, 10, 15, 14, 17, 16] (by decide)⟩
            · have hj85 := bif_f hj85 hb93
              refine sYg hf hs rfl rfl rfl (congrArg (fun b => some (Value.bool b)) hb93) rfl rfl rfl (Y_move rfl rfl) ?_; clear hf; intro a hf
              refine sYg hf hs rfl rfl rfl (congrArg (fun b => some (Value.bool b)) hb93) rfl rfl rfl (Y_move rfl rfl) ?_; clear hf; intro a hf
              refine sYg hf hs rfl rfl rfl (congrArg (fun b => some (Value.bool b)) hb93) rfl rfl rfl (Y_neq rfl rfl rfl) ?_; clear hf; intro a hf
              refine sY hf hs rfl rfl rfl (Y_pickF rfl (congrArg (fun b => some (Value.bool b)) hb93) rfl) ?_; clear hf; intro a hf
              refine sY hf hs rfl rfl rfl (Y_move rfl rfl) ?_; clear hf; intro a hf
              refine bsplit (r58.2 != r65.2) (fun hb94 => ?_) (fun hb94 => ?_)
              · have hj85 := bif_t hj85 hb94
                refine sNo hf rfl rfl rfl (congrArg (fun b => some (Value.bool b)) hb94) rfl rfl rfl ?_; clear hf; intro a hf
                refine sNo hf rfl rfl rfl (congrArg (fun b => some (Value.bool b)) hb94) rfl rfl rfl ?_; clear hf; intro a hf
                refine sNo hf rfl rfl rfl (congrArg (fun b => some (Value.bool b)) hb94) rfl rfl rfl ?_; clear hf; intro a hf
                refine sNo hf rfl rfl rfl (congrArg (fun b => some (Value.bool b)) hb94) rfl rfl rfl ?_; clear hf; intro a hf
                refine sY hf hs rfl rfl rfl (Y_pickT rfl (congrArg (fun b => some (Value.bool b)) hb94) rfl) ?_; clear hf; intro a hf
                refine wpO_nil ?_
                refine wpL_nil (then_normal ?_)
                exact ⟨true, Option.some.inj hj85, (FrD.pick (FrD.pick (FrD.pick (FrD.pick (FrD.pick (FrD.pick (FrD.pick (FrD.pick (FrD.pick (FrD.pick (FrD.pick hf.none hf rfl) hf rfl) hf rfl) hf rfl) hf rfl) hf rfl) hf rfl) hf rfl) hf rfl) hf rfl) hf rfl), hs.sel [2, 0, 3, 1, 5, 4, 9, 8, 11, 10, 15, 14, 17, 16] (by decide)⟩
              · have hj85 := bif_f hj85 hb94
                refine sYg hf hs rfl rfl rfl (congrArg (fun b => some (Value.bool b)) hb94) rfl rfl rfl (Y_load_blkS rfl rfl (i := 17) rfl ag59 ti59 rfl) ?_; clear hf; intro a hf
                refine sYg hf hs rfl rfl rfl (congrArg (fun b => some (Value.bool b)) hb94) rfl rfl rfl (Y_load_blkS rfl rfl (i := 19) rfl ag59 ti59 rfl) ?_; clear hf; intro a hf
                obtain ⟨r95, hc96, hj85⟩ := bind_some hj85
                refine sCallg hf rfl rfl rfl (congrArg (fun b => some (Value.bool b)) hb94) rfl rfl rfl rfl (cap := []) rfl rfl en50 (laws_likeGraphs9_ok F (GEventGraph.mk r58.1.Events r58.1.Places) A60 n61 c62 hn63 (GEventGraph.mk r65.1.Events r65.1.Places) A67 n68 c69 hn70 _ _ hc96 (hs.rd (i := 16) rfl) (hs.rd (i := 18) rfl)) ?_; clear hf
                rintro _ w ⟨rfl, hs1⟩ a hf
                have hs : St [] W w [.row A6 n7 c8 127 4 ((recs GPlace.cells) r4.1.Places), .row A10 n11 c12 127 4 ((recs GPlace.cells) r4.2.Places), .blk b14 59 [.int .i64 r4.1.Events, .slice A6 n7 c8], .blk b15 59 [.int .i64 r4.2.Events, .slice A10 n11 c12], .row A18 n19 c20 127 4 ((recs GPlace.cells) r16.1.Places), .blk b22 59 [.int .i64 r16.1.Events, .slice A18 n19 c20], .row A25 n26 c27 127 4 ((recs GPlace.cells) r23.1.Places), .blk b29 59 [.int .i64 r23.1.Events, .slice A25 n26 c27], .row A32 n33 c34 127 4 ((recs GPlace.cells) r30.1.Places), .blk b36 59 [.int .i64 r30.1.Events, .slice A32 n33 c34], .row A39 n40 c41 127 4 ((recs GPlace.cells) r37.1.Places), .blk b43 59 [.int .i64 r37.1.Events, .slice A39 n40 c41], .row A46 n47 c48 127 4 ((recs GPlace.cells) r44.1.Places), .blk b50 59 [.int .i64 r44.1.Events, .slice A46 n47 c48], .row A53 n54 c55 127 4 ((recs GPlace.cells) r51.1.Places), .blk b57 59 [.int .i64 r51.1.Events, .slice A53 n54 c55], .row A60 n61 c62 127 4 ((recs GPlace.cells) r58.1.Places), .blk b64 59 [.int .i64 r58.1.Events, .slice A60 n61 c62], .row A67 n68 c69 127 4 ((recs GPlace.cells) r65.1.Places), .blk b71 59 [.int .i64 r65.1.Events, .slice A67 n68 c69]] := hs.ext hs1.below
                clear hs1
                refine sYg hf hs rfl rfl rfl (congrArg (fun b => some (Value.bool b)) hb94) rfl rfl rfl (Y_not rfl rfl) ?_; clear hf; intro a hf
                refine sY hf hs rfl rfl rfl (Y_pickF rfl (congrArg (fun b => some (Value.bool b)) hb94) rfl) ?_; clear hf; intro a hf
                refine wpO_nil ?_
                refine wpL_nil (then_normal ?_)
                exact ⟨(!r95), Option.some.inj hj85, (FrD.pick (FrD.pick (FrD.pick (FrD.pick (FrD.pick (FrD.pick (FrD.pick (FrD.pick (FrD.pick (FrD.pick (FrD.pick hf.none hf rfl) hf rfl) hf rfl) hf rfl) hf rfl) hf rfl) hf rfl) hf rfl) hf rfl) hf rfl) hf rfl), hs.sel [2, 0, 3, 1, 5, 4, 9, 8, 11, 10, 15, 14, 17, 16] (by decide)⟩
    · rintro a w ⟨b83, hr_, hf, hs⟩
      subst hr_
      try dsimp only at hm
      refine wpL_cond hf rfl (fun hb97 => ?_) (fun hb97 => ?_)
      · have hm := bif_t hm hb97
        refine wpL_seq ?_
        refine wpL_region ?_
        refine sY hf hs rfl rfl rfl (Y_assign rfl rfl) ?_; clear hf; intro a hf
        refine wpO_nil ?_
        obtain rfl := Option.some.inj hm
        refine wpL_ret (ret_tmp rfl hf rfl ?_)
        exact ⟨_, rfl, rfl, hs.sel [] (by decide)⟩
      · have hm := bif_f hm hb97
        refine wpL_skip ?_
        refine wpL_seq ?_
        refine wpL_seq ?_
        obtain ⟨r104, hj105, hm⟩ := bind_some hm
        refine wpL_cut (fun a w => ∃ b103 : Bool, b103 = r104 ∧ Fr a 240 [(3, .pointer (some ⟨b14, 0, none⟩)), (4, .pointer (some ⟨b15, 0, none⟩)), (5, .pointer (some ⟨b22, 0, none⟩)), (6, .int .i64 r16.2), (9, .pointer (some ⟨b36, 0, none⟩)), (12, .pointer (some ⟨b43, 0, none⟩)), (13, .int .i64 r37.2), (148, .bool b103)] ∧ St [] W w [.blk b14 59 [.int .i64 r4.1.Events, .slice A6 n7 c8], .row A6 n7 c8 127 4 ((recs GPlace.cells) r4.1.Places), .blk b15 59 [.int .i64 r4.2.Events, .slice A10 n11 c12], .row A10 n11 c12 127 4 ((recs GPlace.cells) r4.2.Places), .blk b22 59 [.int .i64 r16.1.Events, .slice A18 n19 c20], .row A18 n19 c20 127 4 ((recs GPlace.cells) r16.1.Places), .blk b36 59 [.int .i64 r30.1.Events, .slice A32 n33 c34], .row A32 n33 c34 127 4 ((recs GPlace.cells) r30.1.Places), .blk b43 59 [.int .i64 r37.1.Events, .slice A39 n40 c41], .row A39 n40 c41 127 4 ((recs GPlace.cells) r37.1.Places)]) ?_ ?_
        · refine wpL_region ?_
          refine sY hf hs rfl rfl rfl (Y_move rfl rfl) ?_; clear hf; intro a hf
          refine sY hf hs rfl rfl rfl (Y_eql rfl rfl rfl) ?_; clear hf; intro a hf
          refine sY hf hs rfl rfl rfl (Y_move rfl rfl) ?_; clear hf; intro a hf
          refine bsplit (r58.2 == 0) (fun hb106 => ?_) (fun hb106 => ?_)
          · have hj105 := bif_t hj105 hb106
            refine sYg hf hs rfl rfl rfl (congrArg (fun b => some (Value.bool b)) hb106) rfl rfl rfl (Y_fieldAddr rfl rfl fo59_0) ?_; clear hf; intro a hf
            refine sYg hf hs rfl rfl rfl (congrArg (fun b => some (Value.bool b)) hb106) rfl rfl rfl (Y_load_blk rfl rfl (i := 12) rfl rfl ag2) ?_; clear hf; intro a hf
            refine sYg hf hs rfl rfl rfl (congrArg (fun b => some (Value.bool b)) hb106) rfl rfl rfl (Y_fieldAddr rfl rfl fo59_0) ?_; clear hf; intro a hf
            refine sYg hf hs rfl rfl rfl (congrArg (fun b => some (Value.bool b)) hb106) rfl rfl rfl (Y_load_blk rfl rfl (i := 10) rfl rfl ag2) ?_; clear hf; intro a hf
            refine sYg hf hs rfl rfl rfl (congrArg (fun b => some (Value.bool b)) hb106) rfl rfl rfl (Y_sub rfl rfl rfl) ?_; clear hf; intro a hf
            refine sYg hf hs rfl rfl rfl (congrArg (fun b => some (Value.bool b)) hb106) rfl rfl rfl (Y_neq rfl rfl rfl) ?_; clear hf; intro a hf
            refine sYg hf hs rfl rfl rfl (congrArg (fun b => some (Value.bool b)) hb106) rfl rfl rfl (Y_move rfl rfl) ?_; clear hf; intro a hf
            refine bsplit (r58.1.Events != (IntKind.i64.wrap (r51.1.Events - 1))) (fun hb107 => ?_) (fun hb107 => ?_)
            · have hj105 := bif_t hj105 hb107
              refine sNo hf rfl rfl rfl (congrArg (fun b => some (Value.bool b)) hb107) rfl rfl rfl ?_; clear hf; intro a hf
              refine sNo hf rfl rfl rfl (congrArg (fun b => some (Value.bool b)) hb107) rfl rfl rfl ?_; clear hf; intro a hf
              refine sNo hf rfl rfl rfl (congrArg (fun b => some (Value.bool b)) hb107) rfl rfl rfl ?_; clear hf; intro a hf
              refine sNo hf rfl rfl rfl (congrArg (fun b => some (Value.bool b)) hb107) rfl rfl rfl ?_; clear hf; intro a hf
              refine sNo hf rfl rfl rfl (congrArg (fun b => some (Value.bool b)) hb107) rfl rfl rfl ?_; clear hf; intro a hf
              refine sNo hf rfl rfl rfl (congrArg (fun b => some (Value.bool b)) hb107) rfl rfl rfl ?_; clear hf; intro a hf
              refine sNo hf rfl rfl rfl (congrArg (fun b => some (Value.bool b)) hb107) rfl rfl rfl ?_; clear hf; intro a hf
              refine sYg hf hs rfl rfl rfl (congrArg (fun b => some (Value.bool b)) hb106) rfl rfl rfl (Y_pickT rfl (congrArg (fun b => some (Value.bool b)) hb107) rfl) ?_; clear hf; intro a hf
              refine sYg hf hs rfl rfl rfl (congrArg (fun b => some (Value.bool b)) hb106) rfl rfl rfl (Y_move rfl rfl) ?_; clear hf; intro a hf
              refine sNo hf rfl rfl rfl rfl rfl rfl rfl ?_; clear hf; intro a hf
              refine sNo hf rfl rfl rfl rfl rfl rfl rfl ?_; clear hf; intro a hf
              refine sNo hf rfl rfl rfl rfl rfl rfl rfl ?_; clear hf; intro a hf
              refine sYg hf hs rfl rfl rfl (congrArg (fun b => some (Value.bool b)) hb106) rfl rfl rfl (Y_pickT rfl rfl rfl) ?_; clear hf; intro a hf
              refine sY hf hs rfl rfl rfl (Y_pickT rfl (congrArg (fun b => some (Value.bool b)) hb106) rfl) ?_; clear hf; intro a hf
              refine wpO_nil ?_
              refine wpL_nil (then_normal ?_)
              exact ⟨true, Option.some.inj hj105, (FrD.pick (FrD.pick (FrD.pick (FrD.pick (FrD.pick (FrD.pick (FrD.pick (FrD.pick hf.none hf rfl) hf rfl) hf rfl) hf rfl) hf rfl) hf rfl) hf rfl) hf rfl), hs.sel [0, 1, 2, 3, 4, 5, 6, 7, 8, 9] (by decide)⟩
            · have hj105 := bif_f hj105 hb107
              refine sYg hf hs rfl rfl rfl (congrArg (fun b => some (Value.bool b)) hb107) rfl rfl rfl (Y_fieldAddr rfl rfl fo59_1) ?_; clear hf; intro a hf
              refine sYg hf hs rfl rfl rfl (congrArg (fun b => some (Value.bool b)) hb107) rfl rfl rfl (Y_load_blk rfl rfl (i := 12) rfl rfl ag57) ?_; clear hf; intro a hf
              refine sYg hf hs rfl rfl rfl (congrArg (fun b => some (Value.bool b)) hb107) rfl rfl rfl (Y_lenH rfl rfl el57 hn63) ?_; clear hf; intro a hf
              refine sYg hf hs rfl rfl rfl (congrArg (fun b => some (Value.bool b)) hb107) rfl rfl rfl (Y_fieldAddr rfl rfl fo59_1) ?_; clear hf; intro a hf
              refine sYg hf hs rfl rfl rfl (congrArg (fun b => some (Value.bool b)) hb107) rfl rfl rfl (Y_load_blk rfl rfl (i := 10) rfl rfl ag57) ?_; clear hf; intro a hf
              refine sYg hf hs rfl rfl rfl (congrArg (fun b => some (Value.bool b)) hb107) rfl rfl rfl (Y_lenH rfl rfl el57 hn56) ?_; clear hf; intro a hf
              refine sYg hf hs rfl rfl rfl (congrArg (fun b => some (Value.bool b)) hb107) rfl rfl rfl (Y_neq rfl rfl rfl) ?_; clear hf; intro a hf
              refine sYg hf hs rfl rfl rfl (congrArg (fun b => some (Value.bool b)) hb106) rfl rfl rfl (Y_pickF rfl (congrArg (fun b => some (Value.bool b)) hb107) rfl) ?_; clear hf; intro a hf
              refine sYg hf hs rfl rfl rfl (congrArg (fun b => some (Value.bool b)) hb106) rfl rfl rfl (Y_move rfl rfl) ?_; clear hf; intro a hf
              refine bsplit ((r58.1.Places.length : Int) != (r51.1.Places.length : Int)) (fun hb108 => ?_) (fun hb108 => ?_)
              · have hj105 := bif_t hj105 hb108
                refine sNo hf rfl rfl rfl (congrArg (fun b => some (Value.bool b)) hb108) rfl rfl rfl ?_; clear hf; intro a hf
                refine sNo hf rfl rfl rfl (congrArg (fun b => some (Value.bool b)) hb108) rfl rfl rfl ?_; clear hf; intro a hf
                refine sNo hf rfl rfl rfl (congrArg (fun b => some (Value.bool b)) hb108) rfl rfl rfl ?_; clear hf; intro a hf
                refine sYg hf hs rfl rfl rfl (congrArg (fun b => some (Value.bool b)) hb106) rfl rfl rfl (Y_pickT rfl (congrArg (fun b => some (Value.bool b)) hb108) rfl) ?_; clear hf; intro a hf
                refine sY hf hs rfl rfl rfl (Y_pickT rfl (congrArg (fun b => some (Value.bool b)) hb106) rfl) ?_; clear hf; intro a hf
                refine wpO_nil ?_
                refine wpL_nil (then_normal ?_)
                exact ⟨true, Option.some.inj hj105, (FrD.pick (FrD.pick (FrD.pick (FrD.pick (FrD.pick (FrD.pick (FrD.pick (FrD.pick hf.none hf rfl) hf rfl) hf rfl) hf rfl) hf rfl) hf rfl) hf rfl) hf rfl), hs.sel [0, 1, 2, 3, 4, 5, 6, 7, 8, 9] (by decide)⟩
              · have hj105 := bif_f hj105 hb108
                refine sYg hf hs rfl rfl rfl (congrArg (fun b => some (Value.bool b)) hb108) rfl rfl rfl (Y_load_blkS rfl rfl (i := 12) rfl ag59 ti59 rfl) ?_; clear hf; intro a hf
                obtain ⟨r109, hc110, hj105⟩ := bind_some hj105
                refine sCallg hf rfl rfl rfl (congrArg (fun b => some (Value.bool b)) hb108) rfl rfl rfl rfl (cap := []) rfl rfl en51 (impl_IsEventGraph_ok F (GEventGraph.mk r58.1.Events r58.1.Places) A60 n61 c62 hn63 _ _ hc110 (hs.rd (i := 13) rfl)) ?_; clear hf
                rintro _ w ⟨rfl, hs1⟩ a hf
                have hs : St [] W w [.blk b14 59 [.int .i64 r4.1.Events, .slice A6 n7 c8], .row A6 n7 c8 127 4 ((recs GPlace.cells) r4.1.Places), .blk b15 59 [.int .i64 r4.2.Events, .slice A10 n11 c12], .row A10 n11 c12 127 4 ((recs GPlace.cells) r4.2.Places), .blk b22 59 [.int .i64 r16.1.Events, .slice A18 n19 c20], .row A18 n19 c20 127 4 ((recs GPlace.cells) r16.1.Places), .blk b36 59 [.int .i64 r30.1.Events, .slice A32 n33 c34], .row A32 n33 c34 127 4 ((recs GPlace.cells) r30.1.Places), .blk b43 59 [.int .i64 r37.1.Events, .slice A39 n40 c41], .row A39 n40 c41 127 4 ((recs GPlace.cells) r37.1.Places), .blk b57 59 [.int .i64 r51.1.Events, .slice A53 n54 c55], .row A53 n54 c55 127 4 ((recs GPlace.cells) r51.1.Places), .blk b64 59 [.int .i64 r58.1.Events, .slice A60 n61 c62], .row A60 n61 c62 127 4 ((recs GPlace.cells) r58.1.Places)] := hs.ext hs1.below
                clear hs1
                refine sYg hf hs rfl rfl rfl (congrArg (fun b => some (Value.bool b)) hb108) rfl rfl rfl (Y_not rfl rfl) ?_; clear hf; intro a hf
                refine sYg hf hs rfl rfl rfl (congrArg (fun b => some (Value.bool b)) hb106) rfl rfl rfl (Y_pickF rfl (congrArg (fun b => some (Value.bool b)) hb108) rfl) ?_; clear hf; intro a hf
                refine sY hf hs rfl rfl rfl (Y_pickT rfl (congrArg (fun b => some (Value.bool b)) hb106) rfl) ?_; clear hf; intro a hf
                refine wpO_nil ?_
                refine wpL_nil (then_normal ?_)
                exact ⟨(!r109), Option.some.inj hj105, (FrD.pick (FrD.pick (FrD.pick (FrD.pick (FrD.pick (FrD.pick (FrD.pick (FrD.pick hf.none hf rfl) hf rfl) hf rfl) hf rfl) hf rfl) hf rfl) hf rfl) hf rfl), hs.sel [0, 1, 2, 3, 4, 5, 6, 7, 8, 9] (by decide)⟩
          · have hj105 := bif_f hj105 hb106
            refine sNo hf rfl rfl rfl (congrArg (fun b => some (Value.bool b)) hb106) rfl rfl rfl ?_; clear hf; intro a hf
            refine sNo hf rfl rfl rfl (congrArg (fun b => some (Value.bool b)) hb106) rfl rfl rfl ?_; clear hf; intro a hf
            refine sNo hf rfl rfl rfl (congrArg (fun b => some (Value.bool b)) hb106) rfl rfl rfl ?_; clear hf; intro a hf
            refine sNo hf rfl rfl rfl (congrArg (fun b => some (Value.bool b)) hb106) rfl rfl rfl ?_; clear hf; intro a hf
            refine sNo hf rfl rfl rfl (congrArg (fun b => some (Value.bool b)) hb106) rfl rfl rfl ?_; clear hf; intro a hf
            refine sNo hf rfl rfl rfl (congrArg (fun b => some (Value.bool b)) hb106) rfl rfl rfl ?_; clear hf; intro a hf
            refine sNo hf rfl rfl rfl (congrArg (fun b => some (Value.bool b)) hb106) rfl rfl rfl ?_; clear hf; intro a hf
            refine sNoU hf rfl rfl rfl rfl rfl rfl rfl ?_; clear hf; intro a hf
            refine sNoU hf rfl rfl rfl rfl rfl rfl rfl ?_; clear hf; intro a hf
            refine sNoU hf rfl rfl rfl rfl rfl rfl rfl ?_; clear hf; intro a hf
            refine sNoU hf rfl rfl rfl rfl rfl rfl rfl ?_; clear hf; intro a hf
            refine sNoU hf rfl rfl rfl rfl rfl rfl rfl ?_; clear hf; intro a hf
            refine sNoU hf rfl rfl rfl rfl rfl rfl rfl ?_; clear hf; intro a hf
            refine sNoU hf rfl rfl rfl rfl rfl rfl rfl ?_; clear hf; intro a hf
            refine sNo hf rfl rfl rfl (congrArg (fun b => some (Value.bool b)) hb106) rfl rfl rfl ?_; clear hf; intro a hf
            refine sNo hf rfl rfl rfl (congrArg (fun b => some (Value.bool b)) hb106) rfl rfl rfl ?_; clear hf; intro a hf
            refine sNoU hf rfl rfl rfl rfl rfl rfl rfl ?_; clear hf; intro a hf
            refine sNoU hf rfl rfl rfl rfl rfl rfl rfl ?_; clear hf; intro a hf
            refine sNoU hf rfl rfl rfl rfl rfl rfl rfl ?_; clear hf; intro a hf
            refine sNo hf rfl rfl rfl (congrArg (fun b => some (Value.bool b)) hb106) rfl rfl rfl ?_; clear hf; intro a hf
            refine sY hf hs rfl rfl rfl (Y_pickF rfl (congrArg (fun b => some (Value.bool b)) hb106) rfl) ?_; clear hf; intro a hf
            refine wpO_nil ?_
            refine wpL_nil (then_normal ?_)
            exact ⟨false, Option.some.inj hj105, (FrD.pick (FrD.pick (FrD.pick (FrD.pick (FrD.pick (FrD.pick (FrD.pick (FrD.pick hf.none hf rfl) hf rfl) hf rfl) hf rfl) hf rfl) hf rfl) hf rfl) hf rfl), hs.sel [0, 1, 2, 3, 4, 5, 6, 7, 8, 9] (by decide)⟩
        · rintro a w ⟨b103, hr_, hf, hs⟩
          subst hr_
          try dsimp only at hm
          refine wpL_cond hf rfl (fun hb111 => ?_) (fun hb111 => ?_)
          · have hm := bif_t hm hb111
            refine wpL_seq ?_
            refine wpL_region ?_
            refine sY hf hs rfl rfl rfl (Y_assign rfl rfl) ?_; clear hf; intro a hf
            refine wpO_nil ?_
            obtain rfl := Option.some.inj hm
            refine wpL_ret (ret_tmp rfl hf rfl ?_)
            exact ⟨_, rfl, rfl, hs.sel [] (by decide)⟩
          · have hm := bif_f hm hb111
            refine wpL_skip ?_
            refine wpL_seq ?_
            refine wpL_seq ?_
            refine wpL_region ?_
            refine sY hf hs rfl rfl rfl (Y_move rfl rfl) ?_; clear hf; intro a hf
            refine sY hf hs rfl rfl rfl (Y_eql rfl rfl rfl) ?_; clear hf; intro a hf
            refine wpO_nil ?_
            obtain ⟨r203, hj204, hm⟩ := bind_some hm
            refine wpL_cut (fun a w => Sum.inr () = r203 ∧ Fr a 240 [(3, .pointer (some ⟨b14, 0, none⟩)), (4, .pointer (some ⟨b15, 0, none⟩)), (5, .pointer (some ⟨b22, 0, none⟩)), (6, .int .i64 r16.2)] ∧ St [] W w [.blk b14 59 [.int .i64 r4.1.Events, .slice A6 n7 c8], .row A6 n7 c8 127 4 ((recs GPlace.cells) r4.1.Places), .blk b15 59 [.int .i64 r4.2.Events, .slice A10 n11 c12], .row A10 n11 c12 127 4 ((recs GPlace.cells) r4.2.Places), .blk b22 59 [.int .i64 r16.1.Events, .slice A18 n19 c20], .row A18 n19 c20 127 4 ((recs GPlace.cells) r16.1.Places)]) ?_ ?_
            · refine wpL_cond hf rfl (fun hb205 => ?_) (fun hb205 => ?_)
              · have hj204 := bif_t hj204 hb205
                refine wpL_seq ?_
                refine wpL_region ?_
                refine sY hf hs rfl rfl rfl (Y_load_blkS rfl rfl (i := 6) rfl ag59 ti59 rfl) ?_; clear hf; intro a hf
                obtain ⟨r206, hc207, hj204⟩ := bind_some hj204
                refine sCall hf rfl rfl rfl rfl (cap := []) rfl rfl en52 (impl_FiringTimes_ok F (GEventGraph.mk r30.1.Events r30.1.Places) A32 n33 c34 hn35 5 _ _ hc207 (hs.rd (i := 7) rfl)) ?_; clear hf
                rintro _ w ⟨A208, n209, c210, vs212, rfl, hn211, hs1⟩ a hf
                have hs : St [] W w [.blk b14 59 [.int .i64 r4.1.Events, .slice A6 n7 c8], .row A6 n7 c8 127 4 ((recs GPlace.cells) r4.1.Places), .blk b15 59 [.int .i64 r4.2.Events, .slice A10 n11 c12], .row A10 n11 c12 127 4 ((recs GPlace.cells) r4.2.Places), .blk b22 59 [.int .i64 r16.1.Events, .slice A18 n19 c20], .row A18 n19 c20 127 4 ((recs GPlace.cells) r16.1.Places), .blk b36 59 [.int .i64 r30.1.Events, .slice A32 n33 c34], .row A32 n33 c34 127 4 ((recs GPlace.cells) r30.1.Places), .blk b43 59 [.int .i64 r37.1.Events, .slice A39 n40 c41], .row A39 n40 c41 127 4 ((recs GPlace.cells) r37.1.Places), .mat A208 n209 c210 23 2 vs212 r206.1] := hs.join hs1
                clear hs1
                refine sY hf hs rfl rfl rfl (Y_move rfl rfl) ?_; clear hf; intro a hf
                refine sY hf hs rfl rfl rfl (Y_extract rfl rfl rfl) ?_; clear hf; intro a hf
                refine sY hf hs rfl rfl rfl (Y_extract rfl rfl rfl) ?_; clear hf; intro a hf
                refine sY hf hs rfl rfl rfl (Y_assign rfl rfl) ?_; clear hf; intro a hf
                refine sY hf hs rfl rfl rfl (Y_assign rfl rfl) ?_; clear hf; intro a hf
                refine wpO_nil ?_
                refine wpL_seq ?_
                refine wpL_region ?_
                refine sY hf hs rfl rfl rfl (Y_load_blkS rfl rfl (i := 8) rfl ag59 ti59 rfl) ?_; clear hf; intro a hf
                obtain ⟨r213, hc214, hj204⟩ := bind_some hj204
                refine sCall hf rfl rfl rfl rfl (cap := []) rfl rfl en52 (impl_FiringTimes_ok F (GEventGraph.mk r37.1.Events r37.1.Places) A39 n40 c41 hn42 5 _ _ hc214 (hs.rd (i := 9) rfl)) ?_; clear hf
                rintro _ w ⟨A215, n216, c217, vs219, rfl, hn218, hs1⟩ a hf
                have hs : St [] W w [.blk b14 59 [.int .i64 r4.1.Events, .slice A6 n7 c8], .row A6 n7 c8 127 4 ((recs GPlace.cells) r4.1.Places), .blk b15 59 [.int .i64 r4.2.Events, .slice A10 n11 c12], .row A10 n11 c12 127 4 ((recs GPlace.cells) r4.2.Places), .blk b22 59 [.int .i64 r16.1.Events, .slice A18 n19 c20], .row A18 n19 c20 127 4 ((recs GPlace.cells) r16.1.Places), .blk b36 59 [.int .i64 r30.1.Events, .slice A32 n33 c34], .row A32 n33 c34 127 4 ((recs GPlace.cells) r30.1.Places), .blk b43 59 [.int .i64 r37.1.Events, .slice A39 n40 c41], .row A39 n40 c41 127 4 ((recs GPlace.cells) r37.1.Places), .mat A208 n209 c210 23 2 vs212 r206.1, .mat A215 n216 c217 23 2 vs219 r213.1] := hs.join hs1
                clear hs1
                refine sY hf hs rfl rfl rfl (Y_move rfl rfl) ?_; clear hf; intro a hf
                refine sY hf hs rfl rfl rfl (Y_extract rfl rfl rfl) ?_; clear hf; intro a hf
                refine sY hf hs rfl rfl rfl (Y_extract rfl rfl rfl) ?_; clear hf; intro a hf
                refine sY hf hs rfl rfl rfl (Y_assign rfl rfl) ?_; clear hf; intro a hf
                refine sY hf hs rfl rfl rfl (Y_assign rfl rfl) ?_; clear hf; intro a hf
                refine wpO_nil ?_
                refine wpL_seq ?_
                refine wpL_seq ?_
                obtain ⟨r222, hj223, hj204⟩ := bind_some hj204
                refine wpL_cut (fun a w => ∃ b221 : Bool, b221 = r222 ∧ Fr a 240 [(3, .pointer (some ⟨b14, 0, none⟩)), (4, .pointer (some ⟨b15, 0, none⟩)), (5, .pointer (some ⟨b22, 0, none⟩)), (6, .int .i64 r16.2), (9, .pointer (some ⟨b36, 0, none⟩)), (23, .slice A208 n209 c210), (25, .slice A215 n216 c217), (170, .bool b221)] ∧ St [] W w [.blk b14 59 [.int .i64 r4.1.Events, .slice A6 n7 c8], .row A6 n7 c8 127 4 ((recs GPlace.cells) r4.1.Places), .blk b15 59 [.int .i64 r4.2.Events, .slice A10 n11 c12], .row A10 n11 c12 127 4 ((recs GPlace.cells) r4.2.Places), .blk b22 59 [.int .i64 r16.1.Events, .slice A18 n19 c20], .row A18 n19 c20 127 4 ((recs GPlace.cells) r16.1.Places), .blk b36 59 [.int .i64 r30.1.Events, .slice A32 n33 c34], .row A32 n33 c34 127 4 ((recs GPlace.cells) r30.1.Places), .mat A208 n209 c210 23 2 vs212 r206.1, .mat A215 n216 c217 23 2 vs219 r213.1]) ?_ ?_
                · refine wpL_region ?_
                  refine sY hf hs rfl rfl rfl (Y_move rfl rfl) ?_; clear hf; intro a hf
                  refine sY hf hs rfl rfl rfl (Y_move rfl rfl) ?_; clear hf; intro a hf
                  refine sY hf hs rfl rfl rfl (Y_neq rfl rfl rfl) ?_; clear hf; intro a hf
                  refine sY hf hs rfl rfl rfl (Y_move rfl rfl) ?_; clear hf; intro a hf
                  refine bsplit (r206.2 != r213.2) (fun hb224 => ?_) (fun hb224 => ?_)
                  · have hj223 := bif_t hj223 hb224
                    refine sNo hf rfl rfl rfl (congrArg (fun b => some (Value.bool b)) hb224) rfl rfl rfl ?_; clear hf; intro a hf
                    refine sNo hf rfl rfl rfl (congrArg (fun b => some (Value.bool b)) hb224) rfl rfl rfl ?_; clear hf; intro a hf
                    refine sNo hf rfl rfl rfl (congrArg (fun b => some (Value.bool b)) hb224) rfl rfl rfl ?_; clear hf; intro a hf
                    refine sNo hf rfl rfl rfl (congrArg (fun b => some (Value.bool b)) hb224) rfl rfl rfl ?_; clear hf; intro a hf
                    refine sNo hf rfl rfl rfl (congrArg (fun b => some (Value.bool b)) hb224) rfl rfl rfl ?_; clear hf; intro a hf
                    refine sY hf hs rfl rfl rfl (Y_pickT rfl (congrArg (fun b => some (Value.bool b)) hb224) rfl) ?_; clear hf; intro a hf
                    refine wpO_nil ?_
                    refine wpL_nil (then_normal ?_)
                    exact ⟨true, Option.some.inj hj223, (FrD.pick (FrD.pick (FrD.pick (FrD.pick (FrD.pick (FrD.pick (FrD.pick (FrD.pick hf.none hf rfl) hf rfl) hf rfl) hf rfl) hf rfl) hf rfl) hf rfl) hf rfl), hs.sel [0, 1, 2, 3, 4, 5, 6, 7, 10, 11] (by decide)⟩
                  · have hj223 := bif_f hj223 hb224
                    refine sYg hf hs rfl rfl rfl (congrArg (fun b => some (Value.bool b)) hb224) rfl rfl rfl (Y_move rfl rfl) ?_; clear hf; intro a hf
                    refine sYg hf hs rfl rfl rfl (congrArg (fun b => some (Value.bool b)) hb224) rfl rfl rfl (Y_lenH rfl rfl el22 hn211) ?_; clear hf; intro a hf
                    refine sYg hf hs rfl rfl rfl (congrArg (fun b => some (Value.bool b)) hb224) rfl rfl rfl (Y_move rfl rfl) ?_; clear hf; intro a hf
                    refine sYg hf hs rfl rfl rfl (congrArg (fun b => some (Value.bool b)) hb224) rfl rfl rfl (Y_lenH rfl rfl el22 hn218) ?_; clear hf; intro a hf
                    refine sYg hf hs rfl rfl rfl (congrArg (fun b => some (Value.bool b)) hb224) rfl rfl rfl (Y_neq rfl rfl rfl) ?_; clear hf; intro a hf
                    refine sY hf hs rfl rfl rfl (Y_pickF rfl (congrArg (fun b => some (Value.bool b)) hb224) rfl) ?_; clear hf; intro a hf
                    refine wpO_nil ?_
                    refine wpL_nil (then_normal ?_)
                    exact ⟨((r206.1.length : Int) != (r213.1.length : Int)), Option.some.inj hj223, (FrD.pick (FrD.pick (FrD.pick (FrD.pick (FrD.pick (FrD.pick (FrD.pick (FrD.pick hf.none hf rfl) hf rfl) hf rfl) hf rfl) hf rfl) hf rfl) hf rfl) hf rfl), hs.sel [0, 1, 2, 3, 4, 5, 6, 7, 10, 11] (by decide)⟩
                · rintro a w ⟨b221, hr_, hf, hs⟩
                  subst hr_
                  try dsimp only at hj204
                  refine wpL_cond hf rfl (fun hb225 => ?_) (fun hb225 => ?_)
                  · have hj204 := bif_t hj204 hb225
                    refine wpL_seq ?_
                    refine wpL_region ?_
                    refine sY hf hs rfl rfl rfl (Y_assign rfl rfl) ?_; clear hf; intro a hf
                    refine wpO_nil ?_
                    obtain rfl := Option.some.inj hj204
                    try dsimp only at hm
                    obtain rfl := Option.some.inj hm
                    refine wpL_ret (then_ret (ret_tmp rfl hf rfl ?_))
                    exact ⟨_, rfl, rfl, hs.sel [] (by decide)⟩
                  · have hj204 := bif_f hj204 hb225
                    refine wpL_skip ?_
                    refine wpL_seq ?_
                    refine wpL_region ?_
                    refine sY hf hs rfl rfl rfl (Y_assign rfl rfl) ?_; clear hf; intro a hf
                    refine wpO_nil ?_
                    obtain ⟨r276, hl277, hj204⟩ := bind_some hj204
                    refine wpL_block (fun a w => Sum.inr () = r276 ∧ Fr a 240 [(3, .pointer (some ⟨b14, 0, none⟩)), (4, .pointer (some ⟨b15, 0, none⟩)), (5, .pointer (some ⟨b22, 0, none⟩)), (6, .int .i64 r16.2)] ∧ St [] W w [.blk b14 59 [.int .i64 r4.1.Events, .slice A6 n7 c8], .row A6 n7 c8 127 4 ((recs GPlace.cells) r4.1.Places), .blk b15 59 [.int .i64 r4.2.Events, .slice A10 n11 c12], .row A10 n11 c12 127 4 ((recs GPlace.cells) r4.2.Places), .blk b22 59 [.int .i64 r16.1.Events, .slice A18 n19 c20], .row A18 n19 c20 127 4 ((recs GPlace.cells) r16.1.Places)]) ?_ ?_
                    · refine wpL_loop (fun n a w => ∃ x259 : Int, laws_FnJoined_L2 F r30 r206 r213 n x259 = some r276 ∧ Fr a 240 [(3, .pointer (some ⟨b14, 0, none⟩)), (4, .pointer (some ⟨b15, 0, none⟩)), (5, .pointer (some ⟨b22, 0, none⟩)), (6, .int .i64 r16.2), (9, .pointer (some ⟨b36, 0, none⟩)), (23, .slice A208 n209 c210), (25, .slice A215 n216 c217), (27, .int .i64 x259)] ∧ St [] W w [.blk b14 59 [.int .i64 r4.1.Events, .slice A6 n7 c8], .row A6 n7 c8 127 4 ((recs GPlace.cells) r4.1.Places), .blk b15 59 [.int .i64 r4.2.Events, .slice A10 n11 c12], .row A10 n11 c12 127 4 ((recs GPlace.cells) r4.2.Places), .blk b22 59 [.int .i64 r16.1.Events, .slice A18 n19 c20], .row A18 n19 c20 127 4 ((recs GPlace.cells) r16.1.Places), .blk b36 59 [.int .i64 r30.1.Events, .slice A32 n33 c34], .row A32 n33 c34 127 4 ((recs GPlace.cells) r30.1.Places), .mat A208 n209 c210 23 2 vs212 r206.1, .mat A215 n216 c217 23 2 vs219 r213.1]) F ?_ ?_ ?_
                      · exact ⟨0, hl277, (FrD.pick (FrD.pick (FrD.pick (FrD.pick (FrD.pick (FrD.pick (FrD.pick (FrD.pick hf.none hf rfl) hf rfl) hf rfl) hf rfl) hf rfl) hf rfl) hf rfl) hf rfl), hs⟩
                      · rintro a w ⟨x259, h0_, -, -⟩; simp [laws_FnJoined_L2] at h0_
                      · rintro n279 a w ⟨x259, hm278, hf, hs⟩
                        rw [laws_FnJoined_L2] at hm278
                        refine wpL_seq ?_
                        refine wpL_seq ?_
                        refine wpL_region ?_
                        refine sY hf hs rfl rfl rfl (Y_move rfl rfl) ?_; clear hf; intro a hf
                        refine sY hf hs rfl rfl rfl (Y_move rfl rfl) ?_; clear hf; intro a hf
                        refine sY hf hs rfl rfl rfl (Y_lenH rfl rfl el22 hn211) ?_; clear hf; intro a hf
                        refine sY hf hs rfl rfl rfl (Y_lss rfl rfl rfl) ?_; clear hf; intro a hf
                        refine wpO_nil ?_
                        refine wpL_cond hf rfl (fun hb280 => ?_) (fun hb280 => ?_)
                        · have hm278 := bif_t hm278 hb280
                          refine wpL_skip ?_
                          refine wpL_seq ?_
                          refine wpL_block0 ?_
                          refine wpL_seq ?_
                          refine wpL_draw (by kernel_rfl) (by kernel_rfl) hs ?_
                          refine qY hf rfl rfl rfl (Y_move rfl rfl) ?_; clear hf; intro a hf
                          refine qY hf rfl rfl rfl (Y_move rfl rfl) ?_; clear hf; intro a hf
                          obtain ⟨q281, hi282, hm278⟩ := bind_some hm278
                          obtain ⟨hi282a, hi282b, hi282q⟩ := idx_some hi282
                          obtain ⟨A283, c284, hv285⟩ := hs.matRow (i := 9) rfl hi282q
                          refine qY hf rfl rfl rfl (Y_index rfl rfl rfl el22 ti23 (Rd.isAt (hs.rdV (i := 9) rfl) hv285) hi282a (ltn hn218 hi282b)) ?_; clear hf; intro a hf
                          refine qY hf rfl rfl rfl (Y_load_rd rfl rfl (fun w hs => hs.rdV (i := 9) rfl) (at1 hv285) ag23) ?_; clear hf; intro a hf
                          refine qY hf rfl rfl rfl (Y_fieldAddr rfl rfl fo59_0) ?_; clear hf; intro a hf
                          refine qY hf rfl rfl rfl (Y_load_blk rfl rfl (i := 6) rfl rfl ag2) ?_; clear hf; intro a hf
                          obtain ⟨xs287, hk286, hm278⟩ := bind_some hm278
                          refine qY hf rfl rfl rfl (Y_sliceH rfl rfl rfl (cutTo_some hk286).1 (leC rfl (hs.capMRow (i := 9) rfl ⟨hi282q, hv285⟩) hk286) el23 ti2) ?_; clear hf; intro a hf
                          refine qY hf rfl rfl rfl (Y_move rfl rfl) ?_; clear hf; intro a hf
                          refine qY hf rfl rfl rfl (Y_move rfl rfl) ?_; clear hf; intro a hf
                          obtain ⟨q288, hi289, hm278⟩ := bind_some hm278
                          obtain ⟨hi289a, hi289b, hi289q⟩ := idx_some hi289
                          obtain ⟨A290, c291, hv292⟩ := hs.matRow (i := 8) rfl hi289q
                          refine qY hf rfl rfl rfl (Y_index rfl rfl rfl el22 ti23 (Rd.isAt (hs.rdV (i := 8) rfl) hv292) hi289a (ltn hn211 hi289b)) ?_; clear hf; intro a hf
                          refine qY hf rfl rfl rfl (Y_load_rd rfl rfl (fun w hs => hs.rdV (i := 8) rfl) (at1 hv292) ag23) ?_; clear hf; intro a hf
                          obtain ⟨r293, hc294, hm278⟩ := bind_some hm278
                          refine qCall hf rfl rfl rfl rfl (cap := []) rfl rfl en30 (v := .bool r293) (fun w hs => Calls.scal (laws_likeInts_ok F xs287 A283 ((r30.1.Events : Int).toNat) c284 (pre_len hk286) q288 A290 q288.length c291 rfl _ _ hc294 (Rd.preInts (hs.rdRow (i := 9) rfl ⟨hi282q, hv285⟩) hk286) (hs.rdRow (i := 8) rfl ⟨hi289q, hv292⟩))) ?_; clear hf; intro a hf
                          refine qY hf rfl rfl rfl (Y_not rfl rfl) ?_; clear hf; intro a hf
                          refine qNil ?_; clear hs; intro w hs
                          refine wpL_cond hf rfl (fun hb295 => ?_) (fun hb295 => ?_)
                          · have hm278 := bif_t hm278 hb295
                            refine wpL_seq ?_
                            refine wpL_region ?_
                            refine sY hf hs rfl rfl rfl (Y_assign rfl rfl) ?_; clear hf; intro a hf
                            refine wpO_nil ?_
                            obtain rfl := Option.some.inj hm278
                            try dsimp only at hj204
                            obtain rfl := Option.some.inj hj204
                            try dsimp only at hm
                            obtain rfl := Option.some.inj hm
                            refine wpL_ret (Qb_ret (Ql_ret (Qb_ret (then_ret (ret_tmp rfl hf rfl ?_)))))
                            exact ⟨_, rfl, rfl, hs.sel [] (by decide)⟩
                          · have hm278 := bif_f hm278 hb295
                            refine wpL_skip ?_
                            refine wpL_nil (Qb_normal ?_)
                            refine wpL_region ?_
                            refine sY hf hs rfl rfl rfl (Y_move rfl rfl) ?_; clear hf; intro a hf
                            refine sY hf hs rfl rfl rfl (Y_add rfl rfl rfl) ?_; clear hf; intro a hf
                            refine sY hf hs rfl rfl rfl (Y_assign rfl rfl) ?_; clear hf; intro a hf
                            refine wpO_nil ?_
                            refine wpL_nil (Ql_normal ?_)
                            exact ⟨(IntKind.i64.wrap (x259 + 1)), hm278, (FrD.pick (FrD.pick (FrD.pick (FrD.pick (FrD.pick (FrD.pick (FrD.pick (FrD.pick hf.none hf rfl) hf rfl) hf rfl) hf rfl) hf rfl) hf rfl) hf rfl) hf rfl), hs⟩
                        · have hm278 := bif_f hm278 hb280
                          refine wpL_exit (Ql_exit (Qb_exit ?_))
                          exact ⟨Option.some.inj hm278, (FrD.pick (FrD.pick (FrD.pick (FrD.pick hf.none hf rfl) hf rfl) hf rfl) hf rfl), hs.sel [0, 1, 2, 3, 4, 5] (by decide)⟩
                    · rintro a w ⟨hr_, hf, hs⟩
                      subst hr_
                      try dsimp only at hj204
                      refine wpL_nil (then_normal ?_)
                      exact ⟨Option.some.inj hj204, (FrD.pick (FrD.pick (FrD.pick (FrD.pick hf.none hf rfl) hf rfl) hf rfl) hf rfl), hs⟩
              · have hj204 := bif_f hj204 hb205
                refine wpL_skip ?_
                refine wpL_nil (then_normal ?_)
                exact ⟨Option.some.inj hj204, (FrD.pick (FrD.pick (FrD.pick (FrD.pick hf.none hf rfl) hf rfl) hf rfl) hf rfl), hs.sel [0, 1, 2, 3, 4, 5] (by decide)⟩
            · rintro a w ⟨hr_, hf, hs⟩
              subst hr_
              try dsimp only at hm
              refine wpL_seq ?_
              refine wpL_seq ?_
              refine wpL_region ?_
              refine sY hf hs rfl rfl rfl (Y_move rfl rfl) ?_; clear hf; intro a hf
              refine sY hf hs rfl rfl rfl (Y_neq rfl rfl rfl) ?_; clear hf; intro a hf
              refine wpO_nil ?_
              refine wpL_cond hf rfl (fun hb296 => ?_) (fun hb296 => ?_)
              · have hm := bif_t hm hb296
                refine wpL_seq ?_
                refine wpL_region ?_
                refine sY hf hs rfl rfl rfl (Y_assign rfl rfl) ?_; clear hf; intro a hf
                refine wpO_nil ?_
                obtain rfl := Option.some.inj hm
                refine wpL_ret (ret_tmp rfl hf rfl ?_)
                exact ⟨_, rfl, rfl, hs.sel [] (by decide)⟩
              · have hm := bif_f hm hb296
                refine wpL_skip ?_
                refine wpL_seq ?_
                refine wpL_region ?_
                refine sEmpty hf hs rfl rfl rfl rfl el23 ti2 ?_; clear hf hs; intro a w A297 hs hf
                have hs : St [] W w [.blk b14 59 [.int .i64 r4.1.Events, .slice A6 n7 c8], .row A6 n7 c8 127 4 ((recs GPlace.cells) r4.1.Places), .blk b15 59 [.int .i64 r4.2.Events, .slice A10 n11 c12], .row A10 n11 c12 127 4 ((recs GPlace.cells) r4.2.Places), .blk b22 59 [.int .i64 r16.1.Events, .slice A18 n19 c20], .row A18 n19 c20 127 4 ((recs GPlace.cells) r16.1.Places), .row A297 0 0 2 1 (ints ([] : List Int))] := hs
                refine sEmpty hf hs rfl rfl rfl rfl el23 ti2 ?_; clear hf hs; intro a w A299 hs hf
                have hs : St [] W w [.blk b14 59 [.int .i64 r4.1.Events, .slice A6 n7 c8], .row A6 n7 c8 127 4 ((recs GPlace.cells) r4.1.Places), .blk b15 59 [.int .i64 r4.2.Events, .slice A10 n11 c12], .row A10 n11 c12 127 4 ((recs GPlace.cells) r4.2.Places), .blk b22 59 [.int .i64 r16.1.Events, .slice A18 n19 c20], .row A18 n19 c20 127 4 ((recs GPlace.cells) r16.1.Places), .row A297 0 0 2 1 (ints ([] : List Int)), .row A299 0 0 2 1 (ints ([] : List Int))] := hs
                refine sY hf hs rfl rfl rfl (Y_assign rfl rfl) ?_; clear hf; intro a hf
                refine sY hf hs rfl rfl rfl (Y_assign rfl rfl) ?_; clear hf; intro a hf
                refine wpO_nil ?_
                refine wpL_seq ?_
                refine wpL_seq ?_
                refine wpL_region ?_
                refine sY hf hs rfl rfl rfl (Y_assign rfl rfl) ?_; clear hf; intro a hf
                refine wpO_nil ?_
                obtain ⟨r375, hl376, hm⟩ := bind_some hm
                refine wpL_block (fun a w => ∃ xs365 : List Int, ∃ xs370 : List Int, ∃ A366, ∃ n367, ∃ c368, ∃ A371, ∃ n372, ∃ c373, (xs365, xs370) = r375 ∧ n367 = xs365.length ∧ n372 = xs370.length ∧ Fr a 240 [(3, .pointer (some ⟨b14, 0, none⟩)), (4, .pointer (some ⟨b15, 0, none⟩)), (5, .pointer (some ⟨b22, 0, none⟩)), (28, .slice A366 n367 c368), (29, .slice A371 n372 c373)] ∧ St [] W w [.blk b14 59 [.int .i64 r4.1.Events, .slice A6 n7 c8], .row A6 n7 c8 127 4 ((recs GPlace.cells) r4.1.Places), .blk b15 59 [.int .i64 r4.2.Events, .slice A10 n11 c12], .row A10 n11 c12 127 4 ((recs GPlace.cells) r4.2.Places), .blk b22 59 [.int .i64 r16.1.Events, .slice A18 n19 c20], .row A18 n19 c20 127 4 ((recs GPlace.cells) r16.1.Places), .row A366 n367 c368 2 1 (ints xs365), .row A371 n372 c373 2 1 (ints xs370)]) ?_ ?_
                · refine wpL_loop (fun n a w => ∃ xs340 : List Int, ∃ xs345 : List Int, ∃ x350 : Int, ∃ A341, ∃ n342, ∃ c343, ∃ A346, ∃ n347, ∃ c348, laws_FnJoined_L3 F r4 r16 n xs340 xs345 x350 = some r375 ∧ n342 = xs340.length ∧ n347 = xs345.length ∧ Fr a 240 [(3, .pointer (some ⟨b14, 0, none⟩)), (4, .pointer (some ⟨b15, 0, none⟩)), (5, .pointer (some ⟨b22, 0, none⟩)), (28, .slice A341 n342 c343), (29, .slice A346 n347 c348), (30, .int .i64 x350)] ∧ St [] W w [.blk b14 59 [.int .i64 r4.1.Events, .slice A6 n7 c8], .row A6 n7 c8 127 4 ((recs GPlace.cells) r4.1.Places), .blk b15 59 [.int .i64 r4.2.Events, .slice A10 n11 c12], .row A10 n11 c12 127 4 ((recs GPlace.cells) r4.2.Places), .blk b22 59 [.int .i64 r16.1.Events, .slice A18 n19 c20], .row A18 n19 c20 127 4 ((recs GPlace.cells) r16.1.Places), .row A341 n342 c343 2 1 (ints xs340), .row A346 n347 c348 2 1 (ints xs345)]) F ?_ ?_ ?_
                  · exact ⟨([] : List Int), ([] : List Int), 0, A297, 0, 0, A299, 0, 0, hl376, rfl, rfl, (FrD.pick (FrD.pick (FrD.pick (FrD.pick (FrD.pick (FrD.pick hf.none hf rfl) hf rfl) hf rfl) hf rfl) hf rfl) hf rfl), hs⟩
                  · rintro a w ⟨xs340, xs345, x350, A341, n342, c343, A346, n347, c348, h0_, -, -, -, -⟩; simp [laws_FnJoined_L3] at h0_
                  · rintro n378 a w ⟨xs340, xs345, x350, A341, n342, c343, A346, n347, c348, hm377, hn344, hn349, hf, hs⟩
                    rw [laws_FnJoined_L3] at hm377
                    refine wpL_seq ?_
                    refine wpL_seq ?_
                    refine wpL_region ?_
                    refine sY hf hs rfl rfl rfl (Y_move rfl rfl) ?_; clear hf; intro a hf
                    refine sY hf hs rfl rfl rfl (Y_fieldAddr rfl rfl fo59_0) ?_; clear hf; intro a hf
                    refine sY hf hs rfl rfl rfl (Y_load_blk rfl rfl (i := 4) rfl rfl ag2) ?_; clear hf; intro a hf
                    refine sY hf hs rfl rfl rfl (Y_lss rfl rfl rfl) ?_; clear hf; intro a hf
                    refine wpO_nil ?_
                    refine wpL_cond hf rfl (fun hb379 => ?_) (fun hb379 => ?_)
                    · have hm377 := bif_t hm377 hb379
                      refine wpL_skip ?_
                      refine wpL_seq ?_
                      refine wpL_block0 ?_
                      refine wpL_seq ?_
                      refine wpL_region ?_
                      refine sY hf hs rfl rfl rfl (Y_move rfl rfl) ?_; clear hf; intro a hf
                      refine sY hf hs rfl rfl rfl (Y_fieldAddr rfl rfl fo59_0) ?_; clear hf; intro a hf
                      refine sY hf hs rfl rfl rfl (Y_load_blk rfl rfl (i := 0) rfl rfl ag2) ?_; clear hf; intro a hf
                      refine sY hf hs rfl rfl rfl (Y_lss rfl rfl rfl) ?_; clear hf; intro a hf
                      refine wpO_nil ?_
                      refine wpL_cond hf rfl (fun hb380 => ?_) (fun hb380 => ?_)
                      · have hm377 := bif_t hm377 hb380
                        refine wpL_region ?_
                        refine sY hf hs rfl rfl rfl (Y_move rfl rfl) ?_; clear hf; intro a hf
                        refine sY hf hs rfl rfl rfl (Y_move rfl rfl) ?_; clear hf; intro a hf
                        refine sBuildSlice (parts := [(0, .tmp 205)]) (vs := [.int .i64 x350]) (cells := [.int .i64 x350]) hf hs rfl rfl rfl rfl rfl el23 ti2 rfl rfl rfl rfl ?_; clear hf hs; intro a w A381 hs hA382 hf
                        have hs : St [] W w [.blk b14 59 [.int .i64 r4.1.Events, .slice A6 n7 c8], .row A6 n7 c8 127 4 ((recs GPlace.cells) r4.1.Places), .blk b15 59 [.int .i64 r4.2.Events, .slice A10 n11 c12], .row A10 n11 c12 127 4 ((recs GPlace.cells) r4.2.Places), .blk b22 59 [.int .i64 r16.1.Events, .slice A18 n19 c20], .row A18 n19 c20 127 4 ((recs GPlace.cells) r16.1.Places), .row A341 n342 c343 2 1 (ints xs340), .row A346 n347 c348 2 1 (ints xs345), .row A381 1 1 2 1 (ints ([x350]))] := hs
                        obtain ⟨xs385, ha386, hm377⟩ := bind_some hm377
                        refine sAppendL (i := 6) (xs := xs340) (ys := [x350]) (enc := ints) hf hs rfl rfl rfl rfl rfl rfl hn344 rfl rfl ha386 el23 ti2 rfl rfl rfl (hs.rd (i := 8) rfl) (Nat.succ_pos _) ints_len1 ints_append ints_one ?_; clear hf hs; intro a w A383 c384 hs hf
                        have hs : St [] W w [.blk b14 59 [.int .i64 r4.1.Events, .slice A6 n7 c8], .row A6 n7 c8 127 4 ((recs GPlace.cells) r4.1.Places), .blk b15 59 [.int .i64 r4.2.Events, .slice A10 n11 c12], .row A10 n11 c12 127 4 ((recs GPlace.cells) r4.2.Places), .blk b22 59 [.int .i64 r16.1.Events, .slice A18 n19 c20], .row A18 n19 c20 127 4 ((recs GPlace.cells) r16.1.Places), .row A383 xs385.length c384 2 1 (ints xs385), .row A346 n347 c348 2 1 (ints xs345), .row A381 1 1 2 1 (ints ([x350]))] := hs
                        refine sY hf hs rfl rfl rfl (Y_assign rfl rfl) ?_; clear hf; intro a hf
                        refine wpO_nil ?_
                        refine wpL_nil (Qb_normal ?_)
                        refine wpL_region ?_
                        refine sY hf hs rfl rfl rfl (Y_move rfl rfl) ?_; clear hf; intro a hf
                        refine sY hf hs rfl rfl rfl (Y_add rfl rfl rfl) ?_; clear hf; intro a hf
                        refine sY hf hs rfl rfl rfl (Y_assign rfl rfl) ?_; clear hf; intro a hf
                        refine wpO_nil ?_
                        refine wpL_nil (Ql_normal ?_)
                        exact ⟨xs385, xs345, (IntKind.i64.wrap (x350 + 1)), A383, xs385.length, c384, A346, n347, c348, hm377, rfl, hn349, (FrD.pick (FrD.pick (FrD.pick (FrD.pick (FrD.pick (FrD.pick hf.none hf rfl) hf rfl) hf rfl) hf rfl) hf rfl) hf rfl), hs.sel [0, 1, 2, 3, 4, 5, 6, 7] (by decide)⟩
                      · have hm377 := bif_f hm377 hb380
                        refine wpL_region ?_
                        refine sY hf hs rfl rfl rfl (Y_move rfl rfl) ?_; clear hf; intro a hf
                        refine sY hf hs rfl rfl rfl (Y_move rfl rfl) ?_; clear hf; intro a hf
                        refine sBuildSlice (parts := [(0, .tmp 209)]) (vs := [.int .i64 x350]) (cells := [.int .i64 x350]) hf hs rfl rfl rfl rfl rfl el23 ti2 rfl rfl rfl rfl ?_; clear hf hs; intro a w A387 hs hA388 hf
                        have hs : St [] W w [.blk b14 59 [.int .i64 r4.1.Events, .slice A6 n7 c8], .row A6 n7 c8 127 4 ((recs GPlace.cells) r4.1.Places), .blk b15 59 [.int .i64 r4.2.Events, .slice A10 n11 c12], .row A10 n11 c12 127 4 ((recs GPlace.cells) r4.2.Places), .blk b22 59 [.int .i64 r16.1.Events, .slice A18 n19 c20], .row A18 n19 c20 127 4 ((recs GPlace.cells) r16.1.Places), .row A341 n342 c343 2 1 (ints xs340), .row A346 n347 c348 2 1 (ints xs345), .row A387 1 1 2 1 (ints ([x350]))] := hs
                        obtain ⟨xs391, ha392, hm377⟩ := bind_some hm377
                        refine sAppendL (i := 7) (xs := xs345) (ys := [x350]) (enc := ints) hf hs rfl rfl rfl rfl rfl rfl hn349 rfl rfl ha392 el23 ti2 rfl rfl rfl (hs.rd (i := 8) rfl) (Nat.succ_pos _) ints_len1 ints_append ints_one ?_; clear hf hs; intro a w A389 c390 hs hf
                        have hs : St [] W w [.blk b14 59 [.int .i64 r4.1.Events, .slice A6 n7 c8], .row A6 n7 c8 127 4 ((recs GPlace.cells) r4.1.Places), .blk b15 59 [.int .i64 r4.2.Events, .slice A10 n11 c12], .row A10 n11 c12 127 4 ((recs GPlace.cells) r4.2.Places), .blk b22 59 [.int .i64 r16.1.Events, .slice A18 n19 c20], .row A18 n19 c20 127 4 ((recs GPlace.cells) r16.1.Places), .row A341 n342 c343 2 1 (ints xs340), .row A389 xs391.length c390 2 1 (ints xs391), .row A387 1 1 2 1 (ints ([x350]))] := hs
                        refine sY hf hs rfl rfl rfl (Y_assign rfl rfl) ?_; clear hf; intro a hf
                        refine wpO_nil ?_
                        refine wpL_nil (Qb_normal ?_)
                        refine wpL_region ?_
                        refine sY hf hs rfl rfl rfl (Y_move rfl rfl) ?_; clear hf; intro a hf
                        refine sY hf hs rfl rfl rfl (Y_add rfl rfl rfl) ?_; clear hf; intro a hf
                        refine sY hf hs rfl rfl rfl (Y_assign rfl rfl) ?_; clear hf; intro a hf
                        refine wpO_nil ?_
                        refine wpL_nil (Ql_normal ?_)
                        exact ⟨xs340, xs391, (IntKind.i64.wrap (x350 + 1)), A341, n342, c343, A389, xs391.length, c390, hm377, hn344, rfl, (FrD.pick (FrD.pick (FrD.pick (FrD.pick (FrD.pick (FrD.pick hf.none hf rfl) hf rfl) hf rfl) hf rfl) hf rfl) hf rfl), hs.sel [0, 1, 2, 3, 4, 5, 6, 7] (by decide)⟩
                    · have hm377 := bif_f hm377 hb379
                      refine wpL_exit (Ql_exit (Qb_exit ?_))
                      exact ⟨xs340, xs345, A341, n342, c343, A346, n347, c348, Option.some.inj hm377, hn344, hn349, (FrD.pick (FrD.pick (FrD.pick (FrD.pick (FrD.pick hf.none hf rfl) hf rfl) hf rfl) hf rfl) hf rfl), hs⟩
                · rintro a w ⟨xs365, xs370, A366, n367, c368, A371, n372, c373, hr_, hn369, hn374, hf, hs⟩
                  subst hr_
                  try dsimp only at hm
                  refine wpL_seq ?_
                  refine wpL_region ?_
                  refine sY hf hs rfl rfl rfl (Y_load_blkS rfl rfl (i := 4) rfl ag59 ti59 rfl) ?_; clear hf; intro a hf
                  refine sY hf hs rfl rfl rfl (Y_move rfl rfl) ?_; clear hf; intro a hf
                  obtain ⟨r393, hc394, hm⟩ := bind_some hm
                  refine sCall hf rfl rfl rfl rfl (cap := []) rfl rfl en53 (impl_PartOfGraph_ok F (GEventGraph.mk r16.1.Events r16.1.Places) A18 n19 c20 hn21 xs365 A366 n367 c368 hn369 _ _ hc394 (hs.rd (i := 5) rfl) (hs.rd (i := 6) rfl)) ?_; clear hf
                  rintro _ w ⟨A395, n396, c397, rfl, hn398, hs1⟩ a hf
                  have hs : St [] W w [.blk b14 59 [.int .i64 r4.1.Events, .slice A6 n7 c8], .row A6 n7 c8 127 4 ((recs GPlace.cells) r4.1.Places), .blk b15 59 [.int .i64 r4.2.Events, .slice A10 n11 c12], .row A10 n11 c12 127 4 ((recs GPlace.cells) r4.2.Places), .blk b22 59 [.int .i64 r16.1.Events, .slice A18 n19 c20], .row A18 n19 c20 127 4 ((recs GPlace.cells) r16.1.Places), .row A366 n367 c368 2 1 (ints xs365), .row A371 n372 c373 2 1 (ints xs370), .row A395 n396 c397 127 4 ((recs GPlace.cells) r393.1.Places)] := hs.join hs1
                  clear hs1
                  refine sY hf hs rfl rfl rfl (Y_move rfl rfl) ?_; clear hf; intro a hf
                  refine sY hf hs rfl rfl rfl (Y_extract rfl rfl rfl) ?_; clear hf; intro a hf
                  refine sY hf hs rfl rfl rfl (Y_extract rfl rfl rfl) ?_; clear hf; intro a hf
                  refine sAlloc hf hs rfl rfl rfl rfl ti59 ?_; clear hf hs; intro a w b399 hs hf
                  have hs : St [] W w [.blk b14 59 [.int .i64 r4.1.Events, .slice A6 n7 c8], .row A6 n7 c8 127 4 ((recs GPlace.cells) r4.1.Places), .blk b15 59 [.int .i64 r4.2.Events, .slice A10 n11 c12], .row A10 n11 c12 127 4 ((recs GPlace.cells) r4.2.Places), .blk b22 59 [.int .i64 r16.1.Events, .slice A18 n19 c20], .row A18 n19 c20 127 4 ((recs GPlace.cells) r16.1.Places), .row A366 n367 c368 2 1 (ints xs365), .row A371 n372 c373 2 1 (ints xs370), .row A395 n396 c397 127 4 ((recs GPlace.cells) r393.1.Places), .blk b399 59 [.int .i64 0, .slice none 0 0]] := hs
                  refine sStore (i := 9) (us := [.int .i64 r393.1.Events, .slice A395 n396 c397]) hf hs rfl rfl rfl rfl rfl rfl ti59 rfl rfl rfl (Nat.le_of_ble_eq_true rfl) rfl ?_; clear hs; intro w hs
                  have hs : St [] W w [.blk b14 59 [.int .i64 r4.1.Events, .slice A6 n7 c8], .row A6 n7 c8 127 4 ((recs GPlace.cells) r4.1.Places), .blk b15 59 [.int .i64 r4.2.Events, .slice A10 n11 c12], .row A10 n11 c12 127 4 ((recs GPlace.cells) r4.2.Places), .blk b22 59 [.int .i64 r16.1.Events, .slice A18 n19 c20], .row A18 n19 c20 127 4 ((recs GPlace.cells) r16.1.Places), .row A366 n367 c368 2 1 (ints xs365), .row A371 n372 c373 2 1 (ints xs370), .row A395 n396 c397 127 4 ((recs GPlace.cells) r393.1.Places), .blk b399 59 [.int .i64 r393.1.Events, .slice A395 n396 c397]] := hs
                  refine sY hf hs rfl rfl rfl (Y_assign rfl rfl) ?_; clear hf; intro a hf
                  refine wpO_nil ?_
                  refine wpL_seq ?_
                  refine wpL_region ?_
                  refine sY hf hs rfl rfl rfl (Y_load_blkS rfl rfl (i := 4) rfl ag59 ti59 rfl) ?_; clear hf; intro a hf
                  refine sY hf hs rfl rfl rfl (Y_move rfl rfl) ?_; clear hf; intro a hf
                  obtain ⟨r400, hc401, hm⟩ := bind_some hm
                  refine sCall hf rfl rfl rfl rfl (cap := []) rfl rfl en53 (impl_PartOfGraph_ok F (GEventGraph.mk r16.1.Events r16.1.Places) A18 n19 c20 hn21 xs370 A371 n372 c373 hn374 _ _ hc401 (hs.rd (i := 5) rfl) (hs.rd (i := 7) rfl)) ?_; clear hf
                  rintro _ w ⟨A402, n403, c404, rfl, hn405, hs1⟩ a hf
                  have hs : St [] W w [.blk b14 59 [.int .i64 r4.1.Events, .slice A6 n7 c8], .row A6 n7 c8 127 4 ((recs GPlace.cells) r4.1.Places), .blk b15 59 [.int .i64 r4.2.Events, .slice A10 n11 c12], .row A10 n11 c12 127 4 ((recs GPlace.cells) r4.2.Places), .blk b22 59 [.int .i64 r16.1.Events, .slice A18 n19 c20], .row A18 n19 c20 127 4 ((recs GPlace.cells) r16.1.Places), .row A366 n367 c368 2 1 (ints xs365), .row A371 n372 c373 2 1 (ints xs370), .row A395 n396 c397 127 4 ((recs GPlace.cells) r393.1.Places), .blk b399 59 [.int .i64 r393.1.Events, .slice A395 n396 c397], .row A402 n403 c404 127 4 ((recs GPlace.cells) r400.1.Places)] := hs.join hs1
                  clear hs1
                  refine sY hf hs rfl rfl rfl (Y_move rfl rfl) ?_; clear hf; intro a hf
                  refine sY hf hs rfl rfl rfl (Y_extract rfl rfl rfl) ?_; clear hf; intro a hf
                  refine sY hf hs rfl rfl rfl (Y_extract rfl rfl rfl) ?_; clear hf; intro a hf
                  refine sAlloc hf hs rfl rfl rfl rfl ti59 ?_; clear hf hs; intro a w b406 hs hf
                  have hs : St [] W w [.blk b14 59 [.int .i64 r4.1.Events, .slice A6 n7 c8], .row A6 n7 c8 127 4 ((recs GPlace.cells) r4.1.Places), .blk b15 59 [.int .i64 r4.2.Events, .slice A10 n11 c12], .row A10 n11 c12 127 4 ((recs GPlace.cells) r4.2.Places), .blk b22 59 [.int .i64 r16.1.Events, .slice A18 n19 c20], .row A18 n19 c20 127 4 ((recs GPlace.cells) r16.1.Places), .row A366 n367 c368 2 1 (ints xs365), .row A371 n372 c373 2 1 (ints xs370), .row A395 n396 c397 127 4 ((recs GPlace.cells) r393.1.Places), .blk b399 59 [.int .i64 r393.1.Events, .slice A395 n396 c397], .row A402 n403 c404 127 4 ((recs GPlace.cells) r400.1.Places), .blk b406 59 [.int .i64 0, .slice none 0 0]] := hs
                  refine sStore (i := 11) (us := [.int .i64 r400.1.Events, .slice A402 n403 c404]) hf hs rfl rfl rfl rfl rfl rfl ti59 rfl rfl rfl (Nat.le_of_ble_eq_true rfl) rfl ?_; clear hs; intro w hs
                  have hs : St [] W w [.blk b14 59 [.int .i64 r4.1.Events, .slice A6 n7 c8], .row A6 n7 c8 127 4 ((recs GPlace.cells) r4.1.Places), .blk b15 59 [.int .i64 r4.2.Events, .slice A10 n11 c12], .row A10 n11 c12 127 4 ((recs GPlace.cells) r4.2.Places), .blk b22 59 [.int .i64 r16.1.Events, .slice A18 n19 c20], .row A18 n19 c20 127 4 ((recs GPlace.cells) r16.1.Places), .row A366 n367 c368 2 1 (ints xs365), .row A371 n372 c373 2 1 (ints xs370), .row A395 n396 c397 127 4 ((recs GPlace.cells) r393.1.Places), .blk b399 59 [.int .i64 r393.1.Events, .slice A395 n396 c397], .row A402 n403 c404 127 4 ((recs GPlace.cells) r400.1.Places), .blk b406 59 [.int .i64 r400.1.Events, .slice A402 n403 c404]] := hs
                  refine sY hf hs rfl rfl rfl (Y_assign rfl rfl) ?_; clear hf; intro a hf
                  refine wpO_nil ?_
                  refine wpL_seq ?_
                  obtain ⟨r415, hj416, hm⟩ := bind_some hm
                  refine wpL_cut (fun a w => ∃ b414 : Bool, b414 = r415 ∧ Fr a 240 [(2, .bool b414)] ∧ St [] W w []) ?_ ?_
                  · refine wpL_region ?_
                    refine sY hf hs rfl rfl rfl (Y_move rfl rfl) ?_; clear hf; intro a hf
                    refine sY hf hs rfl rfl rfl (Y_eql rfl rfl rfl) ?_; clear hf; intro a hf
                    refine sY hf hs rfl rfl rfl (Y_move rfl rfl) ?_; clear hf; intro a hf
                    refine bsplit (r393.2 == 0) (fun hb417 => ?_) (fun hb417 => ?_)
                    · have hj416 := bif_t hj416 hb417
                      refine sYg hf hs rfl rfl rfl (congrArg (fun b => some (Value.bool b)) hb417) rfl rfl rfl (Y_move rfl rfl) ?_; clear hf; intro a hf
                      refine sYg hf hs rfl rfl rfl (congrArg (fun b => some (Value.bool b)) hb417) rfl rfl rfl (Y_eql rfl rfl rfl) ?_; clear hf; intro a hf
                      refine sY hf hs rfl rfl rfl (Y_pickT rfl (congrArg (fun b => some (Value.bool b)) hb417) rfl) ?_; clear hf; intro a hf
                      refine sY hf hs rfl rfl rfl (Y_move rfl rfl) ?_; clear hf; intro a hf
                      refine bsplit (r400.2 == 0) (fun hb418 => ?_) (fun hb418 => ?_)
                      · have hj416 := bif_t hj416 hb418
                        refine sYg hf hs rfl rfl rfl (congrArg (fun b => some (Value.bool b)) hb418) rfl rfl rfl (Y_load_blkS rfl rfl (i := 9) rfl ag59 ti59 rfl) ?_; clear hf; intro a hf
                        refine sYg hf hs rfl rfl rfl (congrArg (fun b => some (Value.bool b)) hb418) rfl rfl rfl (Y_load_blkS rfl rfl (i := 0) rfl ag59 ti59 rfl) ?_; clear hf; intro a hf
                        obtain ⟨r419, hc420, hj416⟩ := bind_some hj416
                        refine sCallg hf rfl rfl rfl (congrArg (fun b => some (Value.bool b)) hb418) rfl rfl rfl rfl (cap := []) rfl rfl en50 (laws_likeGraphs9_ok F (GEventGraph.mk r393.1.Events r393.1.Places) A395 n396 c397 hn398 (GEventGraph.mk r4.1.Events r4.1.Places) A6 n7 c8 hn9 _ _ hc420 (hs.rd (i := 8) rfl) (hs.rd (i := 1) rfl)) ?_; clear hf
                        rintro _ w ⟨rfl, hs1⟩ a hf
                        have hs : St [] W w [.blk b14 59 [.int .i64 r4.1.Events, .slice A6 n7 c8], .row A6 n7 c8 127 4 ((recs GPlace.cells) r4.1.Places), .blk b15 59 [.int .i64 r4.2.Events, .slice A10 n11 c12], .row A10 n11 c12 127 4 ((recs GPlace.cells) r4.2.Places), .blk b22 59 [.int .i64 r16.1.Events, .slice A18 n19 c20], .row A18 n19 c20 127 4 ((recs GPlace.cells) r16.1.Places), .row A366 n367 c368 2 1 (ints xs365), .row A371 n372 c373 2 1 (ints xs370), .row A395 n396 c397 127 4 ((recs GPlace.cells) r393.1.Places), .blk b399 59 [.int .i64 r393.1.Events, .slice A395 n396 c397], .row A402 n403 c404 127 4 ((recs GPlace.cells) r400.1.Places), .blk b406 59 [.int .i64 r400.1.Events, .slice A402 n403 c404]] := hs.ext hs1.below
                        clear hs1
                        refine sY hf hs rfl rfl rfl (Y_pickT rfl (congrArg (fun b => some (Value.bool b)) hb418) rfl) ?_; clear hf; intro a hf
                        refine sY hf hs rfl rfl rfl (Y_move rfl rfl) ?_; clear hf; intro a hf
                        refine bsplit r419 (fun hb421 => ?_) (fun hb421 => ?_)
                        · have hj416 := bif_t hj416 hb421
                          refine sYg hf hs rfl rfl rfl (congrArg (fun b => some (Value.bool b)) hb421) rfl rfl rfl (Y_load_blkS rfl rfl (i := 11) rfl ag59 ti59 rfl) ?_; clear hf; intro a hf
                          refine sYg hf hs rfl rfl rfl (congrArg (fun b => some (Value.bool b)) hb421) rfl rfl rfl (Y_load_blkS rfl rfl (i := 2) rfl ag59 ti59 rfl) ?_; clear hf; intro a hf
                          obtain ⟨r422, hc423, hj416⟩ := bind_some hj416
                          refine sCallg hf rfl rfl rfl (congrArg (fun b => some (Value.bool b)) hb421) rfl rfl rfl rfl (cap := []) rfl rfl en50 (laws_likeGraphs9_ok F (GEventGraph.mk r400.1.Events r400.1.Places) A402 n403 c404 hn405 (GEventGraph.mk r4.2.Events r4.2.Places) A10 n11 c12 hn13 _ _ hc423 (hs.rd (i := 10) rfl) (hs.rd (i := 3) rfl)) ?_; clear hf
                          rintro _ w ⟨rfl, hs1⟩ a hf
                          have hs : St [] W w [.blk b14 59 [.int .i64 r4.1.Events, .slice A6 n7 c8], .row A6 n7 c8 127 4 ((recs GPlace.cells) r4.1.Places), .blk b15 59 [.int .i64 r4.2.Events, .slice A10 n11 c12], .row A10 n11 c12 127 4 ((recs GPlace.cells) r4.2.Places), .blk b22 59 [.int .i64 r16.1.Events, .slice A18 n19 c20], .row A18 n19 c20 127 4 ((recs GPlace.cells) r16.1.Places), .row A366 n367 c368 2 1 (ints xs365), .row A371 n372 c373 2 1 (ints xs370), .row A395 n396 c397 127 4 ((recs GPlace.cells) r393.1.Places), .blk b399 59 [.int .i64 r393.1.Events, .slice A395 n396 c397], .row A402 n403 c404 127 4 ((recs GPlace.cells) r400.1.Places), .blk b406 59 [.int .i64 r400.1.Events, .slice A402 n403 c404]] := hs.ext hs1.below
                          clear hs1
                          refine sY hf hs rfl rfl rfl (Y_pickT rfl (congrArg (fun b => some (Value.bool b)) hb421) rfl) ?_; clear hf; intro a hf
                          refine sY hf hs rfl rfl rfl (Y_assign rfl rfl) ?_; clear hf; intro a hf
                          refine wpO_nil ?_
                          refine wpL_nil (then_normal ?_)
                          exact ⟨r422, Option.some.inj hj416, (FrD.pick hf.none hf rfl), hs.sel [] (by decide)⟩
                        · have hj416 := bif_f hj416 hb421
                          refine sNo hf rfl rfl rfl (congrArg (fun b => some (Value.bool b)) hb421) rfl rfl rfl ?_; clear hf; intro a hf
                          refine sNo hf rfl rfl rfl (congrArg (fun b => some (Value.bool b)) hb421) rfl rfl rfl ?_; clear hf; intro a hf
                          refine sNo hf rfl rfl rfl (congrArg (fun b => some (Value.bool b)) hb421) rfl rfl rfl ?_; clear hf; intro a hf
                          refine sY hf hs rfl rfl rfl (Y_pickF rfl (congrArg (fun b => some (Value.bool b)) hb421) rfl) ?_; clear hf; intro a hf
                          refine sY hf hs rfl rfl rfl (Y_assign rfl rfl) ?_; clear hf; intro a hf
                          refine wpO_nil ?_
                          refine wpL_nil (then_normal ?_)
                          exact ⟨false, Option.some.inj hj416, (FrD.pick hf.none hf rfl), hs.sel [] (by decide)⟩
                      · have hj416 := bif_f hj416 hb418
                        refine sNo hf rfl rfl rfl (congrArg (fun b => some (Value.bool b)) hb418) rfl rfl rfl ?_; clear hf; intro a hf
                        refine sNo hf rfl rfl rfl (congrArg (fun b => some (Value.bool b)) hb418) rfl rfl rfl ?_; clear hf; intro a hf
                        refine sNo hf rfl rfl rfl (congrArg (fun b => some (Value.bool b)) hb418) rfl rfl rfl ?_; clear hf; intro a hf
                        refine sY hf hs rfl rfl rfl (Y_pickF rfl (congrArg (fun b => some (Value.bool b)) hb418) rfl) ?_; clear hf; intro a hf
                        refine sY hf hs rfl rfl rfl (Y_move rfl rfl) ?_; clear hf; intro a hf
                        refine sNo hf rfl rfl rfl rfl rfl rfl rfl ?_; clear hf; intro a hf
                        refine sNo hf rfl rfl rfl rfl rfl rfl rfl ?_; clear hf; intro a hf
                        refine sNo hf rfl rfl rfl rfl rfl rfl rfl ?_; clear hf; intro a hf
                        refine sY hf hs rfl rfl rfl (Y_pickF rfl rfl rfl) ?_; clear hf; intro a hf
                        refine sY hf hs rfl rfl rfl (Y_assign rfl rfl) ?_; clear hf; intro a hf
                        refine wpO_nil ?_
                        refine wpL_nil (then_normal ?_)
                        exact ⟨false, Option.some.inj hj416, (FrD.pick hf.none hf rfl), hs.sel [] (by decide)⟩
                    · have hj416 := bif_f hj416 hb417
                      refine sNo hf rfl rfl rfl (congrArg (fun b => some (Value.bool b)) hb417) rfl rfl rfl ?_; clear hf; intro a hf
                      refine sNo hf rfl rfl rfl (congrArg (fun b => some (Value.bool b)) hb417) rfl rfl rfl ?_; clear hf; intro a hf
                      refine sY hf hs rfl rfl rfl (Y_pickF rfl (congrArg (fun b => some (Value.bool b)) hb417) rfl) ?_; clear hf; intro a hf
                      refine sY hf hs rfl rfl rfl (Y_move rfl rfl) ?_; clear hf; intro a hf
                      refine sNo hf rfl rfl rfl rfl rfl rfl rfl ?_; clear hf; intro a hf
                      refine sNo hf rfl rfl rfl rfl rfl rfl rfl ?_; clear hf; intro a hf
                      refine sNo hf rfl rfl rfl rfl rfl rfl rfl ?_; clear hf; intro a hf
                      refine sY hf hs rfl rfl rfl (Y_pickF rfl rfl rfl) ?_; clear hf; intro a hf
                      refine sY hf hs rfl rfl rfl (Y_move rfl rfl) ?_; clear hf; intro a hf
                      refine sNo hf rfl rfl rfl rfl rfl rfl rfl ?_; clear hf; intro a hf
                      refine sNo hf rfl rfl rfl rfl rfl rfl rfl ?_; clear hf; intro a hf
                      refine sNo hf rfl rfl rfl rfl rfl rfl rfl ?_; clear hf; intro a hf
                      refine sY hf hs rfl rfl rfl (Y_pickF rfl rfl rfl) ?_; clear hf; intro a hf
                      refine sY hf hs rfl rfl rfl (Y_assign rfl rfl) ?_; clear hf; intro a hf
                      refine wpO_nil ?_
                      refine wpL_nil (then_normal ?_)
                      exact ⟨false, Option.some.inj hj416, (FrD.pick hf.none hf rfl), hs.sel [] (by decide)⟩
                  · rintro a w ⟨b414, hr_, hf, hs⟩
                    subst hr_
                    try dsimp only at hm
                    obtain rfl := Option.some.inj hm
                    refine wpL_ret (ret_tmp rfl hf rfl ?_)
                    exact ⟨_, rfl, rfl, hs⟩

end Go.Proofs.Ytgkgimglgjfcjaa
