/- The functions do what their models say. -/
import Derived.Test.YthbcakdjdbfepaaShiftTimetableLifted1
import Derived.Test.YthbcakdjdbfepaaRows
namespace Go.Proofs.Ythbcakdjdbfepaa
open Go.RowKit

set_option maxRecDepth 100000 in
theorem laws_eqPlace_ok (F : Nat) (p0_a : GPlace) (p1_b : GPlace) (r : Bool) (W : World) (hm : laws_eqPlace F p0_a p1_b = some r) :
    Calls Try.prog 106 [.agg #[.int .i64 p0_a.From, .int .i64 p0_a.To, .int .i64 p0_a.Delay, .int .i64 p0_a.Tokens], .agg #[.int .i64 p1_b.From, .int .i64 p1_b.To, .int .i64 p1_b.Delay, .int .i64 p1_b.Tokens]].toArray W fun e w' => ∃ v, e = .returned v ∧ v = .bool r ∧ St [] W w' [] := by
  unfold laws_eqPlace at hm
  refine Calls.enter (N := 25) Try.func106 rfl rfl rfl (fun a hf => ?_)
  have hs := St.start W
  obtain ⟨w, hw_⟩ : ∃ w, w = W := ⟨W, rfl⟩
  clear hw_ w
  refine wpL_seq ?_
  refine wpL_region ?_
  refine sBox hf hs rfl rfl rfl rfl rfl (cs := [.int .i64 p0_a.From, .int .i64 p0_a.To, .int .i64 p0_a.Delay, .int .i64 p0_a.Tokens]) rfl ?_; clear hf hs; intro a w b1 hs hf
  have hs : St [] W w [.blk b1 71 [.int .i64 p0_a.From, .int .i64 p0_a.To, .int .i64 p0_a.Delay, .int .i64 p0_a.Tokens]] := hs
  refine sBox hf hs rfl rfl rfl rfl rfl (cs := [.int .i64 p1_b.From, .int .i64 p1_b.To, .int .i64 p1_b.Delay, .int .i64 p1_b.Tokens]) rfl ?_; clear hf hs; intro a w b2 hs hf
  have hs : St [] W w [.blk b1 71 [.int .i64 p0_a.From, .int .i64 p0_a.To, .int .i64 p0_a.Delay, .int .i64 p0_a.Tokens], .blk b2 71 [.int .i64 p1_b.From, .int .i64 p1_b.To, .int .i64 p1_b.Delay, .int .i64 p1_b.Tokens]] := hs
  refine sY hf hs rfl rfl rfl (Y_assign rfl rfl) ?_; clear hf; intro a hf
  refine wpO_nil ?_
  refine wpL_seq ?_
  refine wpL_seq ?_
  refine wpL_region ?_
  refine sY hf hs rfl rfl rfl (Y_fieldAddr rfl rfl fo71_0) ?_; clear hf; intro a hf
  refine sY hf hs rfl rfl rfl (Y_load_blk rfl rfl (i := 0) rfl rfl ag2) ?_; clear hf; intro a hf
  refine sY hf hs rfl rfl rfl (Y_fieldAddr rfl rfl fo71_0) ?_; clear hf; intro a hf
  refine sY hf hs rfl rfl rfl (Y_load_blk rfl rfl (i := 1) rfl rfl ag2) ?_; clear hf; intro a hf
  refine sY hf hs rfl rfl rfl (Y_neq rfl rfl rfl) ?_; clear hf; intro a hf
  refine wpO_nil ?_
  refine wpL_cond hf rfl (fun hb3 => ?_) (fun hb3 => ?_)
  · have hm := bif_t hm hb3
    refine wpL_seq ?_
    refine wpL_region ?_
    refine sY hf hs rfl rfl rfl (Y_assign rfl rfl) ?_; clear hf; intro a hf
    refine wpO_nil ?_
    obtain rfl := Option.some.inj hm
    refine wpL_ret (ret_tmp rfl hf rfl ?_)
    exact ⟨_, rfl, rfl, hs.sel [] (by decide)⟩
  · have hm := bif_f hm hb3
    refine wpL_skip ?_
    refine wpL_seq ?_
    refine wpL_seq ?_
    refine wpL_region ?_
    refine sY hf hs rfl rfl rfl (Y_fieldAddr rfl rfl fo71_1) ?_; clear hf; intro a hf
    refine sY hf hs rfl rfl rfl (Y_load_blk rfl rfl (i := 0) rfl rfl ag2) ?_; clear hf; intro a hf
    refine sY hf hs rfl rfl rfl (Y_fieldAddr rfl rfl fo71_1) ?_; clear hf; intro a hf
    refine sY hf hs rfl rfl rfl (Y_load_blk rfl rfl (i := 1) rfl rfl ag2) ?_; clear hf; intro a hf
    refine sY hf hs rfl rfl rfl (Y_neq rfl rfl rfl) ?_; clear hf; intro a hf
    refine wpO_nil ?_
    refine wpL_cond hf rfl (fun hb4 => ?_) (fun hb4 => ?_)
    · have hm := bif_t hm hb4
      refine wpL_seq ?_
      refine wpL_region ?_
      refine sY hf hs rfl rfl rfl (Y_assign rfl rfl) ?_; clear hf; intro a hf
      refine wpO_nil ?_
      obtain rfl := Option.some.inj hm
      refine wpL_ret (ret_tmp rfl hf rfl ?_)
      exact ⟨_, rfl, rfl, hs.sel [] (by decide)⟩
    · have hm := bif_f hm hb4
      refine wpL_skip ?_
      refine wpL_seq ?_
      refine wpL_seq ?_
      refine wpL_region ?_
      refine sY hf hs rfl rfl rfl (Y_fieldAddr rfl rfl fo71_2) ?_; clear hf; intro a hf
      refine sY hf hs rfl rfl rfl (Y_load_blk rfl rfl (i := 0) rfl rfl ag2) ?_; clear hf; intro a hf
      refine sY hf hs rfl rfl rfl (Y_fieldAddr rfl rfl fo71_2) ?_; clear hf; intro a hf
      refine sY hf hs rfl rfl rfl (Y_load_blk rfl rfl (i := 1) rfl rfl ag2) ?_; clear hf; intro a hf
      refine sY hf hs rfl rfl rfl (Y_neq rfl rfl rfl) ?_; clear hf; intro a hf
      refine wpO_nil ?_
      refine wpL_cond hf rfl (fun hb5 => ?_) (fun hb5 => ?_)
      · have hm := bif_t hm hb5
        refine wpL_seq ?_
        refine wpL_region ?_
        refine sY hf hs rfl rfl rfl (Y_assign rfl rfl) ?_; clear hf; intro a hf
        refine wpO_nil ?_
        obtain rfl := Option.some.inj hm
        refine wpL_ret (ret_tmp rfl hf rfl ?_)
        exact ⟨_, rfl, rfl, hs.sel [] (by decide)⟩
      · have hm := bif_f hm hb5
        refine wpL_skip ?_
        refine wpL_seq ?_
        refine wpL_seq ?_
        refine wpL_region ?_
        refine sY hf hs rfl rfl rfl (Y_fieldAddr rfl rfl fo71_3) ?_; clear hf; intro a hf
        refine sY hf hs rfl rfl rfl (Y_load_blk rfl rfl (i := 0) rfl rfl ag2) ?_; clear hf; intro a hf
        refine sY hf hs rfl rfl rfl (Y_fieldAddr rfl rfl fo71_3) ?_; clear hf; intro a hf
        refine sY hf hs rfl rfl rfl (Y_load_blk rfl rfl (i := 1) rfl rfl ag2) ?_; clear hf; intro a hf
        refine sY hf hs rfl rfl rfl (Y_neq rfl rfl rfl) ?_; clear hf; intro a hf
        refine wpO_nil ?_
        refine wpL_cond hf rfl (fun hb6 => ?_) (fun hb6 => ?_)
        · have hm := bif_t hm hb6
          refine wpL_seq ?_
          refine wpL_region ?_
          refine sY hf hs rfl rfl rfl (Y_assign rfl rfl) ?_; clear hf; intro a hf
          refine wpO_nil ?_
          obtain rfl := Option.some.inj hm
          refine wpL_ret (ret_tmp rfl hf rfl ?_)
          exact ⟨_, rfl, rfl, hs.sel [] (by decide)⟩
        · have hm := bif_f hm hb6
          refine wpL_skip ?_
          refine wpL_seq ?_
          refine wpL_region ?_
          refine sY hf hs rfl rfl rfl (Y_assign rfl rfl) ?_; clear hf; intro a hf
          refine wpO_nil ?_
          obtain rfl := Option.some.inj hm
          refine wpL_ret (ret_tmp rfl hf rfl ?_)
          exact ⟨_, rfl, rfl, hs.sel [] (by decide)⟩

set_option maxRecDepth 100000 in
theorem laws_eqPlaceS_ok (F : Nat) (p0_a : List GPlace) (A_p0_a_1 : Option Addr) (n_p0_a_1 c_p0_a_1 : Nat) (hn_p0_a_1 : n_p0_a_1 = p0_a.length) (p1_b : List GPlace) (A_p1_b_1 : Option Addr) (n_p1_b_1 c_p1_b_1 : Nat) (hn_p1_b_1 : n_p1_b_1 = p1_b.length) (r : Bool) (W : World) (hm : laws_eqPlaceS F p0_a p1_b = some r) (h_p0_a_1 : Rd W A_p0_a_1 ((recs GPlace.cells) p0_a)) (h_p1_b_1 : Rd W A_p1_b_1 ((recs GPlace.cells) p1_b)) :
    Calls Try.prog 67 [.slice A_p0_a_1 n_p0_a_1 c_p0_a_1, .slice A_p1_b_1 n_p1_b_1 c_p1_b_1].toArray W fun e w' => ∃ v, e = .returned v ∧ v = .bool r ∧ St [] W w' [] := by
  subst hn_p0_a_1
  subst hn_p1_b_1
  unfold laws_eqPlaceS at hm
  refine Calls.enter (N := 27) Try.func67 rfl rfl rfl (fun a hf => ?_)
  have hs := St.start W
  obtain ⟨w, hw_⟩ : ∃ w, w = W := ⟨W, rfl⟩
  clear hw_ w
  refine wpL_seq ?_
  refine wpL_region ?_
  refine sY hf hs rfl rfl rfl (Y_assign rfl rfl) ?_; clear hf; intro a hf
  refine wpO_nil ?_
  refine wpL_seq ?_
  refine wpL_seq ?_
  refine wpL_region ?_
  refine sY hf hs rfl rfl rfl (Y_move rfl rfl) ?_; clear hf; intro a hf
  refine sY hf hs rfl rfl rfl (Y_lenH rfl rfl el32 rfl) ?_; clear hf; intro a hf
  refine sY hf hs rfl rfl rfl (Y_move rfl rfl) ?_; clear hf; intro a hf
  refine sY hf hs rfl rfl rfl (Y_lenH rfl rfl el32 rfl) ?_; clear hf; intro a hf
  refine sY hf hs rfl rfl rfl (Y_neq rfl rfl rfl) ?_; clear hf; intro a hf
  refine wpO_nil ?_
  refine wpL_cond hf rfl (fun hb1 => ?_) (fun hb1 => ?_)
  · have hm := bif_t hm hb1
    refine wpL_seq ?_
    refine wpL_region ?_
    refine sY hf hs rfl rfl rfl (Y_assign rfl rfl) ?_; clear hf; intro a hf
    refine wpO_nil ?_
    obtain rfl := Option.some.inj hm
    refine wpL_ret (ret_tmp rfl hf rfl ?_)
    exact ⟨_, rfl, rfl, hs⟩
  · have hm := bif_f hm hb1
    refine wpL_skip ?_
    refine wpL_seq ?_
    refine wpL_seq ?_
    refine wpL_region ?_
    refine sY hf hs rfl rfl rfl (Y_assign rfl rfl) ?_; clear hf; intro a hf
    refine wpO_nil ?_
    obtain ⟨r28, hl29, hm⟩ := bind_some hm
    refine wpL_block (fun a w => Sum.inr () = r28 ∧ Fr a 27 [] ∧ St [] W w []) ?_ ?_
    · refine wpL_loop (fun n a w => ∃ x19 : Int, laws_eqPlaceS_L1 F p0_a p1_b n x19 = some r28 ∧ Fr a 27 [(0, .slice A_p0_a_1 p0_a.length c_p0_a_1), (1, .slice A_p1_b_1 p1_b.length c_p1_b_1), (5, .int .i64 x19)] ∧ St [] W w []) F ?_ ?_ ?_
      · exact ⟨0, hl29, (Fr.pick (Fr.pick (Fr.pick hf.none hf rfl) hf rfl) hf rfl), hs⟩
      · rintro a w ⟨x19, h0_, -, -⟩; simp [laws_eqPlaceS_L1] at h0_
      · rintro n31 a w ⟨x19, hm30, hf, hs⟩
        rw [laws_eqPlaceS_L1] at hm30
        refine wpL_seq ?_
        refine wpL_seq ?_
        refine wpL_region ?_
        refine sY hf hs rfl rfl rfl (Y_move rfl rfl) ?_; clear hf; intro a hf
        refine sY hf hs rfl rfl rfl (Y_move rfl rfl) ?_; clear hf; intro a hf
        refine sY hf hs rfl rfl rfl (Y_lenH rfl rfl el32 rfl) ?_; clear hf; intro a hf
        refine sY hf hs rfl rfl rfl (Y_lss rfl rfl rfl) ?_; clear hf; intro a hf
        refine wpO_nil ?_
        refine wpL_cond hf rfl (fun hb32 => ?_) (fun hb32 => ?_)
        · have hm30 := bif_t hm30 hb32
          refine wpL_skip ?_
          refine wpL_seq ?_
          refine wpL_block0 ?_
          refine wpL_seq ?_
          refine wpL_draw (by kernel_rfl) (by kernel_rfl) hs ?_
          refine qY hf rfl rfl rfl (Y_move rfl rfl) ?_; clear hf; intro a hf
          refine qY hf rfl rfl rfl (Y_move rfl rfl) ?_; clear hf; intro a hf
          obtain ⟨q33, hi34, hm30⟩ := bind_some hm30
          obtain ⟨hi34a, hi34b, hi34q⟩ := idx_some hi34
          refine qY hf rfl rfl rfl (Y_index rfl rfl rfl el32 ti71 (Rd.isAt (h_p0_a_1.at hs) (recs_at (s := 4) GPlace.len hi34q (j := 0) rfl)) hi34a hi34b) ?_; clear hf; intro a hf
          refine qY hf rfl rfl rfl (Y_load_rdS rfl rfl (us := [.int .i64 q33.From, .int .i64 q33.To, .int .i64 q33.Delay, .int .i64 q33.Tokens]) (fun w hs => h_p0_a_1.at hs) (fun j u hj => recs_at (s := 4) GPlace.len hi34q hj) (Nat.succ_pos _) ag71 ti71 rfl) ?_; clear hf; intro a hf
          refine qY hf rfl rfl rfl (Y_move rfl rfl) ?_; clear hf; intro a hf
          refine qY hf rfl rfl rfl (Y_move rfl rfl) ?_; clear hf; intro a hf
          obtain ⟨q35, hi36, hm30⟩ := bind_some hm30
          obtain ⟨hi36a, hi36b, hi36q⟩ := idx_some hi36
          refine qY hf rfl rfl rfl (Y_index rfl rfl rfl el32 ti71 (Rd.isAt (h_p1_b_1.at hs) (recs_at (s := 4) GPlace.len hi36q (j := 0) rfl)) hi36a hi36b) ?_; clear hf; intro a hf
          refine qY hf rfl rfl rfl (Y_load_rdS rfl rfl (us := [.int .i64 q35.From, .int .i64 q35.To, .int .i64 q35.Delay, .int .i64 q35.Tokens]) (fun w hs => h_p1_b_1.at hs) (fun j u hj => recs_at (s := 4) GPlace.len hi36q hj) (Nat.succ_pos _) ag71 ti71 rfl) ?_; clear hf; intro a hf
          obtain ⟨r37, hc38, hm30⟩ := bind_some hm30
          refine qCall hf rfl rfl rfl rfl (cap := []) rfl rfl en106 (v := .bool r37) (fun w hs => Calls.scal (laws_eqPlace_ok F q33 q35 _ _ hc38)) ?_; clear hf; intro a hf
          refine qY hf rfl rfl rfl (Y_not rfl rfl) ?_; clear hf; intro a hf
          refine qNil ?_; clear hs; intro w hs
          refine wpL_cond hf rfl (fun hb39 => ?_) (fun hb39 => ?_)
          · have hm30 := bif_t hm30 hb39
            refine wpL_seq ?_
            refine wpL_region ?_
            refine sY hf hs rfl rfl rfl (Y_assign rfl rfl) ?_; clear hf; intro a hf
            refine wpO_nil ?_
            obtain rfl := Option.some.inj hm30
            try dsimp only at hm
            obtain rfl := Option.some.inj hm
            refine wpL_ret (Qb_ret (Ql_ret (Qb_ret (ret_tmp rfl hf rfl ?_))))
            exact ⟨_, rfl, rfl, hs⟩
          · have hm30 := bif_f hm30 hb39
            refine wpL_skip ?_
            refine wpL_nil (Qb_normal ?_)
            refine wpL_region ?_
            refine sY hf hs rfl rfl rfl (Y_move rfl rfl) ?_; clear hf; intro a hf
            refine sY hf hs rfl rfl rfl (Y_add rfl rfl rfl) ?_; clear hf; intro a hf
            refine sY hf hs rfl rfl rfl (Y_assign rfl rfl) ?_; clear hf; intro a hf
            refine wpO_nil ?_
            refine wpL_nil (Ql_normal ?_)
            exact ⟨(IntKind.i64.wrap (x19 + 1)), hm30, (Fr.pick (Fr.pick (Fr.pick hf.none hf rfl) hf rfl) hf rfl), hs⟩
        · have hm30 := bif_f hm30 hb32
          refine wpL_exit (Ql_exit (Qb_exit ?_))
          exact ⟨Option.some.inj hm30, hf.none, hs⟩
    · rintro a w ⟨hr_, hf, hs⟩
      subst hr_
      try dsimp only at hm
      refine wpL_seq ?_
      refine wpL_region ?_
      refine sY hf hs rfl rfl rfl (Y_assign rfl rfl) ?_; clear hf; intro a hf
      refine wpO_nil ?_
      obtain rfl := Option.some.inj hm
      refine wpL_ret (ret_tmp rfl hf rfl ?_)
      exact ⟨_, rfl, rfl, hs⟩

set_option maxRecDepth 100000 in
theorem laws_eqEventGraph_ok (F : Nat) (p0_a : GEventGraph) (A_p0_a_1 : Option Addr) (n_p0_a_1 c_p0_a_1 : Nat) (hn_p0_a_1 : n_p0_a_1 = p0_a.Places.length) (p1_b : GEventGraph) (A_p1_b_1 : Option Addr) (n_p1_b_1 c_p1_b_1 : Nat) (hn_p1_b_1 : n_p1_b_1 = p1_b.Places.length) (r : Bool) (W : World) (hm : laws_eqEventGraph F p0_a p1_b = some r) (h_p0_a_1 : Rd W A_p0_a_1 ((recs GPlace.cells) p0_a.Places)) (h_p1_b_1 : Rd W A_p1_b_1 ((recs GPlace.cells) p1_b.Places)) :
    Calls Try.prog 21 [.agg #[.int .i64 p0_a.Events, .slice A_p0_a_1 n_p0_a_1 c_p0_a_1], .agg #[.int .i64 p1_b.Events, .slice A_p1_b_1 n_p1_b_1 c_p1_b_1]].toArray W fun e w' => ∃ v, e = .returned v ∧ v = .bool r ∧ St [] W w' [] := by
  subst hn_p0_a_1
  subst hn_p1_b_1
  unfold laws_eqEventGraph at hm
  refine Calls.enter (N := 16) Try.func21 rfl rfl rfl (fun a hf => ?_)
  have hs := St.start W
  obtain ⟨w, hw_⟩ : ∃ w, w = W := ⟨W, rfl⟩
  clear hw_ w
  refine wpL_seq ?_
  refine wpL_region ?_
  refine sBox hf hs rfl rfl rfl rfl rfl (cs := [.int .i64 p0_a.Events, .slice A_p0_a_1 p0_a.Places.length c_p0_a_1]) rfl ?_; clear hf hs; intro a w b1 hs hf
  have hs : St [] W w [.blk b1 34 [.int .i64 p0_a.Events, .slice A_p0_a_1 p0_a.Places.length c_p0_a_1]] := hs
  refine sBox hf hs rfl rfl rfl rfl rfl (cs := [.int .i64 p1_b.Events, .slice A_p1_b_1 p1_b.Places.length c_p1_b_1]) rfl ?_; clear hf hs; intro a w b2 hs hf
  have hs : St [] W w [.blk b1 34 [.int .i64 p0_a.Events, .slice A_p0_a_1 p0_a.Places.length c_p0_a_1], .blk b2 34 [.int .i64 p1_b.Events, .slice A_p1_b_1 p1_b.Places.length c_p1_b_1]] := hs
  refine sY hf hs rfl rfl rfl (Y_assign rfl rfl) ?_; clear hf; intro a hf
  refine wpO_nil ?_
  refine wpL_seq ?_
  refine wpL_seq ?_
  refine wpL_region ?_
  refine sY hf hs rfl rfl rfl (Y_fieldAddr rfl rfl fo34_0) ?_; clear hf; intro a hf
  refine sY hf hs rfl rfl rfl (Y_load_blk rfl rfl (i := 0) rfl rfl ag2) ?_; clear hf; intro a hf
  refine sY hf hs rfl rfl rfl (Y_fieldAddr rfl rfl fo34_0) ?_; clear hf; intro a hf
  refine sY hf hs rfl rfl rfl (Y_load_blk rfl rfl (i := 1) rfl rfl ag2) ?_; clear hf; intro a hf
  refine sY hf hs rfl rfl rfl (Y_neq rfl rfl rfl) ?_; clear hf; intro a hf
  refine wpO_nil ?_
  refine wpL_cond hf rfl (fun hb3 => ?_) (fun hb3 => ?_)
  · have hm := bif_t hm hb3
    refine wpL_seq ?_
    refine wpL_region ?_
    refine sY hf hs rfl rfl rfl (Y_assign rfl rfl) ?_; clear hf; intro a hf
    refine wpO_nil ?_
    obtain rfl := Option.some.inj hm
    refine wpL_ret (ret_tmp rfl hf rfl ?_)
    exact ⟨_, rfl, rfl, hs.sel [] (by decide)⟩
  · have hm := bif_f hm hb3
    refine wpL_skip ?_
    refine wpL_seq ?_
    refine wpL_seq ?_
    refine wpL_region ?_
    refine sY hf hs rfl rfl rfl (Y_fieldAddr rfl rfl fo34_1) ?_; clear hf; intro a hf
    refine sY hf hs rfl rfl rfl (Y_load_blk rfl rfl (i := 0) rfl rfl ag32) ?_; clear hf; intro a hf
    refine sY hf hs rfl rfl rfl (Y_fieldAddr rfl rfl fo34_1) ?_; clear hf; intro a hf
    refine sY hf hs rfl rfl rfl (Y_load_blk rfl rfl (i := 1) rfl rfl ag32) ?_; clear hf; intro a hf
    obtain ⟨r4, hc5, hm⟩ := bind_some hm
    refine sCall hf rfl rfl rfl rfl (cap := []) rfl rfl en67 (laws_eqPlaceS_ok F p0_a.Places A_p0_a_1 p0_a.Places.length c_p0_a_1 rfl p1_b.Places A_p1_b_1 p1_b.Places.length c_p1_b_1 rfl _ _ hc5 (h_p0_a_1.at hs) (h_p1_b_1.at hs)) ?_; clear hf
    rintro _ w ⟨rfl, hs1⟩ a hf
    have hs : St [] W w [.blk b1 34 [.int .i64 p0_a.Events, .slice A_p0_a_1 p0_a.Places.length c_p0_a_1], .blk b2 34 [.int .i64 p1_b.Events, .slice A_p1_b_1 p1_b.Places.length c_p1_b_1]] := hs.ext hs1.below
    clear hs1
    refine sY hf hs rfl rfl rfl (Y_not rfl rfl) ?_; clear hf; intro a hf
    refine wpO_nil ?_
    refine wpL_cond hf rfl (fun hb6 => ?_) (fun hb6 => ?_)
    · have hm := bif_t hm hb6
      refine wpL_seq ?_
      refine wpL_region ?_
      refine sY hf hs rfl rfl rfl (Y_assign rfl rfl) ?_; clear hf; intro a hf
      refine wpO_nil ?_
      obtain rfl := Option.some.inj hm
      refine wpL_ret (ret_tmp rfl hf rfl ?_)
      exact ⟨_, rfl, rfl, hs.sel [] (by decide)⟩
    · have hm := bif_f hm hb6
      refine wpL_skip ?_
      refine wpL_seq ?_
      refine wpL_region ?_
      refine sY hf hs rfl rfl rfl (Y_assign rfl rfl) ?_; clear hf; intro a hf
      refine wpO_nil ?_
      obtain rfl := Option.some.inj hm
      refine wpL_ret (ret_tmp rfl hf rfl ?_)
      exact ⟨_, rfl, rfl, hs.sel [] (by decide)⟩

set_option maxRecDepth 100000 in
theorem laws_markPlaceS_ok (F : Nat) (p0_a : List GPlace) (A_p0_a_1 : Option Addr) (n_p0_a_1 c_p0_a_1 : Nat) (hn_p0_a_1 : n_p0_a_1 = p0_a.length) (p1_k : Int) (r : (Int) × List GPlace) (W : World) (hm : laws_markPlaceS F p0_a p1_k = some r) (h_p0_a_1 : (Res.row A_p0_a_1 n_p0_a_1 c_p0_a_1 71 4 ((recs GPlace.cells) p0_a) : Res).holds 0 W) :
    Calls Try.prog 75 [.slice A_p0_a_1 n_p0_a_1 c_p0_a_1, .int .i64 p1_k].toArray W fun e w' => ∃ v, e = .returned v ∧ v = .int .i64 r.1 ∧ n_p0_a_1 = r.2.length ∧ St (muA A_p0_a_1) W w' [.row A_p0_a_1 n_p0_a_1 c_p0_a_1 71 4 ((recs GPlace.cells) r.2)] := by
  subst hn_p0_a_1
  unfold laws_markPlaceS at hm
  refine Calls.enter (N := 41) Try.func75 rfl rfl rfl (fun a hf => ?_)
  have hs : St (muA A_p0_a_1) W W [.row A_p0_a_1 p0_a.length c_p0_a_1 71 4 ((recs GPlace.cells) p0_a)] := St.startMut h_p0_a_1 (fun b hb => mem_muA hb)
  obtain ⟨w, hw_⟩ : ∃ w, w = W := ⟨W, rfl⟩
  clear hw_ w
  refine wpL_seq ?_
  refine wpL_region ?_
  refine sY hf hs rfl rfl rfl (Y_assign rfl rfl) ?_; clear hf; intro a hf
  refine wpO_nil ?_
  refine wpL_seq ?_
  refine wpL_seq ?_
  refine wpL_region ?_
  refine sY hf hs rfl rfl rfl (Y_assign rfl rfl) ?_; clear hf; intro a hf
  refine wpO_nil ?_
  obtain ⟨r63, hl64, hm⟩ := bind_some hm
  refine wpL_block (fun a w => ∃ xs60 : List GPlace, ∃ x62 : Int, (xs60, x62) = r63 ∧ p0_a.length = xs60.length ∧ Fr a 41 [(1, .int .i64 x62)] ∧ St (muA A_p0_a_1) W w [.row A_p0_a_1 p0_a.length c_p0_a_1 71 4 ((recs GPlace.cells) xs60)]) ?_ ?_
  · refine wpL_loop (fun n a w => ∃ xs39 : List GPlace, ∃ x41 : Int, ∃ x42 : Int, laws_markPlaceS_L1 F n xs39 x41 x42 = some r63 ∧ p0_a.length = xs39.length ∧ Fr a 41 [(0, .slice A_p0_a_1 p0_a.length c_p0_a_1), (1, .int .i64 x41), (5, .int .i64 x42)] ∧ St (muA A_p0_a_1) W w [.row A_p0_a_1 p0_a.length c_p0_a_1 71 4 ((recs GPlace.cells) xs39)]) F ?_ ?_ ?_
    · exact ⟨p0_a, p1_k, 0, hl64, rfl, (Fr.pick (Fr.pick (Fr.pick hf.none hf rfl) hf rfl) hf rfl), hs⟩
    · rintro a w ⟨xs39, x41, x42, h0_, -, -, -⟩; simp [laws_markPlaceS_L1] at h0_
    · rintro n66 a w ⟨xs39, x41, x42, hm65, hn40, hf, hs⟩
      rw [laws_markPlaceS_L1] at hm65
      refine wpL_seq ?_
      refine wpL_seq ?_
      refine wpL_region ?_
      refine sY hf hs rfl rfl rfl (Y_move rfl rfl) ?_; clear hf; intro a hf
      refine sY hf hs rfl rfl rfl (Y_move rfl rfl) ?_; clear hf; intro a hf
      refine sY hf hs rfl rfl rfl (Y_lenH rfl rfl el32 hn40) ?_; clear hf; intro a hf
      refine sY hf hs rfl rfl rfl (Y_lss rfl rfl rfl) ?_; clear hf; intro a hf
      refine wpO_nil ?_
      refine wpL_cond hf rfl (fun hb67 => ?_) (fun hb67 => ?_)
      · have hm65 := bif_t hm65 hb67
        refine wpL_skip ?_
        refine wpL_seq ?_
        refine wpL_block0 ?_
        refine wpL_seq ?_
        refine wpL_region ?_
        refine sY hf hs rfl rfl rfl (Y_move rfl rfl) ?_; clear hf; intro a hf
        refine sY hf hs rfl rfl rfl (Y_move rfl rfl) ?_; clear hf; intro a hf
        refine sY hf hs rfl rfl rfl (Y_move rfl rfl) ?_; clear hf; intro a hf
        obtain ⟨q68, hi69, hm65⟩ := bind_some hm65
        obtain ⟨hi69a, hi69b, hi69q⟩ := idx_some hi69
        refine sY hf hs rfl rfl rfl (Y_index rfl rfl rfl el32 ti71 (Rd.isAt (hs.rd (i := 0) rfl) (recs_at (s := 4) GPlace.len hi69q (j := 0) rfl)) hi69a (ltn hn40 hi69b)) ?_; clear hf; intro a hf
        refine sY hf hs rfl rfl rfl (Y_fieldAddrE rfl rfl fo71_0) ?_; clear hf; intro a hf
        obtain ⟨xs70, hu71, hm65⟩ := bind_some hm65
        refine sStoreF (i := 0) (s := 4) (fo := 0) (f := GPlace.cells) (x' := (GPlace.mk x41 q68.To q68.Delay q68.Tokens)) hf hs rfl rfl rfl rfl rfl rfl hi69q hu71 ti2 rfl rfl rfl GPlace.len rfl rfl ?_; clear hs; intro w hs
        have hs : St (muA A_p0_a_1) W w [.row A_p0_a_1 p0_a.length c_p0_a_1 71 4 ((recs GPlace.cells) xs70)] := hs
        refine wpO_nil ?_
        refine wpL_seq ?_
        refine wpL_region ?_
        refine sY hf hs rfl rfl rfl (Y_move rfl rfl) ?_; clear hf; intro a hf
        refine sY hf hs rfl rfl rfl (Y_add rfl rfl rfl) ?_; clear hf; intro a hf
        refine sY hf hs rfl rfl rfl (Y_assign rfl rfl) ?_; clear hf; intro a hf
        refine wpO_nil ?_
        refine wpL_seq ?_
        refine wpL_region ?_
        refine sY hf hs rfl rfl rfl (Y_move rfl rfl) ?_; clear hf; intro a hf
        refine sY hf hs rfl rfl rfl (Y_move rfl rfl) ?_; clear hf; intro a hf
        refine sY hf hs rfl rfl rfl (Y_move rfl rfl) ?_; clear hf; intro a hf
        obtain ⟨q72, hi73, hm65⟩ := bind_some hm65
        obtain ⟨hi73a, hi73b, hi73q⟩ := idx_some hi73
        refine sY hf hs rfl rfl rfl (Y_index rfl rfl rfl el32 ti71 (Rd.isAt (hs.rd (i := 0) rfl) (recs_at (s := 4) GPlace.len hi73q (j := 0) rfl)) hi73a (ltn ((hn40).trans (upd_len hu71).symm) hi73b)) ?_; clear hf; intro a hf
        refine sY hf hs rfl rfl rfl (Y_fieldAddrE rfl rfl fo71_1) ?_; clear hf; intro a hf
        obtain ⟨xs74, hu75, hm65⟩ := bind_some hm65
        refine sStoreF (i := 0) (s := 4) (fo := 1) (f := GPlace.cells) (x' := (GPlace.mk q72.From (IntKind.i64.wrap (x41 + 1)) q72.Delay q72.Tokens)) hf hs rfl rfl rfl rfl rfl rfl hi73q hu75 ti2 rfl rfl rfl GPlace.len rfl rfl ?_; clear hs; intro w hs
        have hs : St (muA A_p0_a_1) W w [.row A_p0_a_1 p0_a.length c_p0_a_1 71 4 ((recs GPlace.cells) xs74)] := hs
        refine wpO_nil ?_
        refine wpL_seq ?_
        refine wpL_region ?_
        refine sY hf hs rfl rfl rfl (Y_move rfl rfl) ?_; clear hf; intro a hf
        refine sY hf hs rfl rfl rfl (Y_add rfl rfl rfl) ?_; clear hf; intro a hf
        refine sY hf hs rfl rfl rfl (Y_assign rfl rfl) ?_; clear hf; intro a hf
        refine wpO_nil ?_
        refine wpL_seq ?_
        refine wpL_region ?_
        refine sY hf hs rfl rfl rfl (Y_move rfl rfl) ?_; clear hf; intro a hf
        refine sY hf hs rfl rfl rfl (Y_move rfl rfl) ?_; clear hf; intro a hf
        refine sY hf hs rfl rfl rfl (Y_move rfl rfl) ?_; clear hf; intro a hf
        obtain ⟨q76, hi77, hm65⟩ := bind_some hm65
        obtain ⟨hi77a, hi77b, hi77q⟩ := idx_some hi77
        refine sY hf hs rfl rfl rfl (Y_index rfl rfl rfl el32 ti71 (Rd.isAt (hs.rd (i := 0) rfl) (recs_at (s := 4) GPlace.len hi77q (j := 0) rfl)) hi77a (ltn ((((hn40).trans (upd_len hu71).symm)).trans (upd_len hu75).symm) hi77b)) ?_; clear hf; intro a hf
        refine sY hf hs rfl rfl rfl (Y_fieldAddrE rfl rfl fo71_2) ?_; clear hf; intro a hf
        obtain ⟨xs78, hu79, hm65⟩ := bind_some hm65
        refine sStoreF (i := 0) (s := 4) (fo := 2) (f := GPlace.cells) (x' := (GPlace.mk q76.From q76.To (IntKind.i64.wrap ((IntKind.i64.wrap (x41 + 1)) + 1)) q76.Tokens)) hf hs rfl rfl rfl rfl rfl rfl hi77q hu79 ti2 rfl rfl rfl GPlace.len rfl rfl ?_; clear hs; intro w hs
        have hs : St (muA A_p0_a_1) W w [.row A_p0_a_1 p0_a.length c_p0_a_1 71 4 ((recs GPlace.cells) xs78)] := hs
        refine wpO_nil ?_
        refine wpL_seq ?_
        refine wpL_region ?_
        refine sY hf hs rfl rfl rfl (Y_move rfl rfl) ?_; clear hf; intro a hf
        refine sY hf hs rfl rfl rfl (Y_add rfl rfl rfl) ?_; clear hf; intro a hf
        refine sY hf hs rfl rfl rfl (Y_assign rfl rfl) ?_; clear hf; intro a hf
        refine wpO_nil ?_
        refine wpL_seq ?_
        refine wpL_region ?_
        refine sY hf hs rfl rfl rfl (Y_move rfl rfl) ?_; clear hf; intro a hf
        refine sY hf hs rfl rfl rfl (Y_move rfl rfl) ?_; clear hf; intro a hf
        refine sY hf hs rfl rfl rfl (Y_move rfl rfl) ?_; clear hf; intro a hf
        obtain ⟨q80, hi81, hm65⟩ := bind_some hm65
        obtain ⟨hi81a, hi81b, hi81q⟩ := idx_some hi81
        refine sY hf hs rfl rfl rfl (Y_index rfl rfl rfl el32 ti71 (Rd.isAt (hs.rd (i := 0) rfl) (recs_at (s := 4) GPlace.len hi81q (j := 0) rfl)) hi81a (ltn ((((((hn40).trans (upd_len hu71).symm)).trans (upd_len hu75).symm)).trans (upd_len hu79).symm) hi81b)) ?_; clear hf; intro a hf
        refine sY hf hs rfl rfl rfl (Y_fieldAddrE rfl rfl fo71_3) ?_; clear hf; intro a hf
        obtain ⟨xs82, hu83, hm65⟩ := bind_some hm65
        refine sStoreF (i := 0) (s := 4) (fo := 3) (f := GPlace.cells) (x' := (GPlace.mk q80.From q80.To q80.Delay (IntKind.i64.wrap ((IntKind.i64.wrap ((IntKind.i64.wrap (x41 + 1)) + 1)) + 1)))) hf hs rfl rfl rfl rfl rfl rfl hi81q hu83 ti2 rfl rfl rfl GPlace.len rfl rfl ?_; clear hs; intro w hs
        have hs : St (muA A_p0_a_1) W w [.row A_p0_a_1 p0_a.length c_p0_a_1 71 4 ((recs GPlace.cells) xs82)] := hs
        refine wpO_nil ?_
        refine wpL_region ?_
        refine sY hf hs rfl rfl rfl (Y_move rfl rfl) ?_; clear hf; intro a hf
        refine sY hf hs rfl rfl rfl (Y_add rfl rfl rfl) ?_; clear hf; intro a hf
        refine sY hf hs rfl rfl rfl (Y_assign rfl rfl) ?_; clear hf; intro a hf
        refine wpO_nil ?_
        refine wpL_nil (Qb_normal ?_)
        refine wpL_region ?_
        refine sY hf hs rfl rfl rfl (Y_move rfl rfl) ?_; clear hf; intro a hf
        refine sY hf hs rfl rfl rfl (Y_add rfl rfl rfl) ?_; clear hf; intro a hf
        refine sY hf hs rfl rfl rfl (Y_assign rfl rfl) ?_; clear hf; intro a hf
        refine wpO_nil ?_
        refine wpL_nil (Ql_normal ?_)
        exact ⟨xs82, (IntKind.i64.wrap ((IntKind.i64.wrap ((IntKind.i64.wrap ((IntKind.i64.wrap (x41 + 1)) + 1)) + 1)) + 1)), (IntKind.i64.wrap (x42 + 1)), hm65, ((((((((hn40).trans (upd_len hu71).symm)).trans (upd_len hu75).symm)).trans (upd_len hu79).symm)).trans (upd_len hu83).symm), (Fr.pick (Fr.pick (Fr.pick hf.none hf rfl) hf rfl) hf rfl), hs⟩
      · have hm65 := bif_f hm65 hb67
        refine wpL_exit (Ql_exit (Qb_exit ?_))
        exact ⟨xs39, x41, Option.some.inj hm65, hn40, (Fr.pick hf.none hf rfl), hs⟩
  · rintro a w ⟨xs60, x62, hr_, hn61, hf, hs⟩
    subst hr_
    try dsimp only at hm
    refine wpL_seq ?_
    refine wpL_region ?_
    refine sY hf hs rfl rfl rfl (Y_move rfl rfl) ?_; clear hf; intro a hf
    refine sY hf hs rfl rfl rfl (Y_assign rfl rfl) ?_; clear hf; intro a hf
    refine wpO_nil ?_
    obtain rfl := Option.some.inj hm
    refine wpL_ret (ret_tmp rfl hf rfl ?_)
    exact ⟨_, rfl, rfl, hn61, hs⟩

set_option maxRecDepth 100000 in
theorem laws_markEventGraph_ok (F : Nat) (p0_a : GEventGraph) (A_p0_a_1 : Option Addr) (n_p0_a_1 c_p0_a_1 : Nat) (hn_p0_a_1 : n_p0_a_1 = p0_a.Places.length) (p1_k : Int) (r : (Int) × List GPlace) (W : World) (hm : laws_markEventGraph F p0_a p1_k = some r) (h_p0_a_1 : (Res.row A_p0_a_1 n_p0_a_1 c_p0_a_1 71 4 ((recs GPlace.cells) p0_a.Places) : Res).holds 0 W) :
    Calls Try.prog 28 [.agg #[.int .i64 p0_a.Events, .slice A_p0_a_1 n_p0_a_1 c_p0_a_1], .int .i64 p1_k].toArray W fun e w' => ∃ v, e = .returned v ∧ v = .int .i64 r.1 ∧ n_p0_a_1 = r.2.length ∧ St (muA A_p0_a_1) W w' [.row A_p0_a_1 n_p0_a_1 c_p0_a_1 71 4 ((recs GPlace.cells) r.2)] := by
  subst hn_p0_a_1
  unfold laws_markEventGraph at hm
  refine Calls.enter (N := 10) Try.func28 rfl rfl rfl (fun a hf => ?_)
  have hs : St (muA A_p0_a_1) W W [.row A_p0_a_1 p0_a.Places.length c_p0_a_1 71 4 ((recs GPlace.cells) p0_a.Places)] := St.startMut h_p0_a_1 (fun b hb => mem_muA hb)
  obtain ⟨w, hw_⟩ : ∃ w, w = W := ⟨W, rfl⟩
  clear hw_ w
  refine wpL_seq ?_
  refine wpL_region ?_
  refine sBox hf hs rfl rfl rfl rfl rfl (cs := [.int .i64 p0_a.Events, .slice A_p0_a_1 p0_a.Places.length c_p0_a_1]) rfl ?_; clear hf hs; intro a w b1 hs hf
  have hs : St (muA A_p0_a_1) W w [.row A_p0_a_1 p0_a.Places.length c_p0_a_1 71 4 ((recs GPlace.cells) p0_a.Places), .blk b1 34 [.int .i64 p0_a.Events, .slice A_p0_a_1 p0_a.Places.length c_p0_a_1]] := hs
  refine sY hf hs rfl rfl rfl (Y_assign rfl rfl) ?_; clear hf; intro a hf
  refine wpO_nil ?_
  refine wpL_seq ?_
  refine wpL_region ?_
  refine sY hf hs rfl rfl rfl (Y_fieldAddr rfl rfl fo34_1) ?_; clear hf; intro a hf
  refine sY hf hs rfl rfl rfl (Y_load_blk rfl rfl (i := 1) rfl rfl ag32) ?_; clear hf; intro a hf
  refine sY hf hs rfl rfl rfl (Y_move rfl rfl) ?_; clear hf; intro a hf
  obtain ⟨r2, hc3, hm⟩ := bind_some hm
  refine sCall hf rfl rfl rfl rfl (cap := []) rfl rfl en75 (laws_markPlaceS_ok F p0_a.Places A_p0_a_1 p0_a.Places.length c_p0_a_1 rfl p1_k _ _ hc3 (hs.res _ _ (show _[0]? = some _ from rfl))) ?_; clear hf
  rintro _ w ⟨rfl, hn4, hs1⟩ a hf
  have hs : St (muA A_p0_a_1) W w [.row A_p0_a_1 p0_a.Places.length c_p0_a_1 71 4 ((recs GPlace.cells) r2.2), .blk b1 34 [.int .i64 p0_a.Events, .slice A_p0_a_1 p0_a.Places.length c_p0_a_1]] := hs.mut (i := 0) rfl (fun b hb => muA_mem hb) hs1
  clear hs1
  refine sY hf hs rfl rfl rfl (Y_assign rfl rfl) ?_; clear hf; intro a hf
  refine wpO_nil ?_
  refine wpL_seq ?_
  refine wpL_region ?_
  refine sY hf hs rfl rfl rfl (Y_move rfl rfl) ?_; clear hf; intro a hf
  refine sY hf hs rfl rfl rfl (Y_assign rfl rfl) ?_; clear hf; intro a hf
  refine wpO_nil ?_
  obtain rfl := Option.some.inj hm
  refine wpL_ret (ret_tmp rfl hf rfl ?_)
  exact ⟨_, rfl, rfl, hn4, hs.sel [0] (by decide)⟩

set_option maxRecDepth 100000 in
theorem laws_markInt64S_ok (F : Nat) (p0_a : List Int) (A_p0_a_1 : Option Addr) (n_p0_a_1 c_p0_a_1 : Nat) (hn_p0_a_1 : n_p0_a_1 = p0_a.length) (p1_k : Int) (r : (Int) × List Int) (W : World) (hm : laws_markInt64S F p0_a p1_k = some r) (h_p0_a_1 : (Res.row A_p0_a_1 n_p0_a_1 c_p0_a_1 2 1 (ints p0_a) : Res).holds 0 W) :
    Calls Try.prog 38 [.slice A_p0_a_1 n_p0_a_1 c_p0_a_1, .int .i64 p1_k].toArray W fun e w' => ∃ v, e = .returned v ∧ v = .int .i64 r.1 ∧ n_p0_a_1 = r.2.length ∧ St (muA A_p0_a_1) W w' [.row A_p0_a_1 n_p0_a_1 c_p0_a_1 2 1 (ints r.2)] := by
  subst hn_p0_a_1
  unfold laws_markInt64S at hm
  refine Calls.enter (N := 19) Try.func38 rfl rfl rfl (fun a hf => ?_)
  have hs : St (muA A_p0_a_1) W W [.row A_p0_a_1 p0_a.length c_p0_a_1 2 1 (ints p0_a)] := St.startMut h_p0_a_1 (fun b hb => mem_muA hb)
  obtain ⟨w, hw_⟩ : ∃ w, w = W := ⟨W, rfl⟩
  clear hw_ w
  refine wpL_seq ?_
  refine wpL_region ?_
  refine sY hf hs rfl rfl rfl (Y_assign rfl rfl) ?_; clear hf; intro a hf
  refine wpO_nil ?_
  refine wpL_seq ?_
  refine wpL_seq ?_
  refine wpL_region ?_
  refine sY hf hs rfl rfl rfl (Y_assign rfl rfl) ?_; clear hf; intro a hf
  refine wpO_nil ?_
  obtain ⟨r27, hl28, hm⟩ := bind_some hm
  refine wpL_block (fun a w => ∃ xs24 : List Int, ∃ x26 : Int, (xs24, x26) = r27 ∧ p0_a.length = xs24.length ∧ Fr a 19 [(1, .int .i64 x26)] ∧ St (muA A_p0_a_1) W w [.row A_p0_a_1 p0_a.length c_p0_a_1 2 1 (ints xs24)]) ?_ ?_
  · refine wpL_loop (fun n a w => ∃ xs15 : List Int, ∃ x17 : Int, ∃ x18 : Int, laws_markInt64S_L1 F n xs15 x17 x18 = some r27 ∧ p0_a.length = xs15.length ∧ Fr a 19 [(0, .slice A_p0_a_1 p0_a.length c_p0_a_1), (1, .int .i64 x17), (5, .int .i64 x18)] ∧ St (muA A_p0_a_1) W w [.row A_p0_a_1 p0_a.length c_p0_a_1 2 1 (ints xs15)]) F ?_ ?_ ?_
    · exact ⟨p0_a, p1_k, 0, hl28, rfl, (Fr.pick (Fr.pick (Fr.pick hf.none hf rfl) hf rfl) hf rfl), hs⟩
    · rintro a w ⟨xs15, x17, x18, h0_, -, -, -⟩; simp [laws_markInt64S_L1] at h0_
    · rintro n30 a w ⟨xs15, x17, x18, hm29, hn16, hf, hs⟩
      rw [laws_markInt64S_L1] at hm29
      refine wpL_seq ?_
      refine wpL_seq ?_
      refine wpL_region ?_
      refine sY hf hs rfl rfl rfl (Y_move rfl rfl) ?_; clear hf; intro a hf
      refine sY hf hs rfl rfl rfl (Y_move rfl rfl) ?_; clear hf; intro a hf
      refine sY hf hs rfl rfl rfl (Y_lenH rfl rfl el25 hn16) ?_; clear hf; intro a hf
      refine sY hf hs rfl rfl rfl (Y_lss rfl rfl rfl) ?_; clear hf; intro a hf
      refine wpO_nil ?_
      refine wpL_cond hf rfl (fun hb31 => ?_) (fun hb31 => ?_)
      · have hm29 := bif_t hm29 hb31
        refine wpL_skip ?_
        refine wpL_seq ?_
        refine wpL_block0 ?_
        refine wpL_seq ?_
        refine wpL_region ?_
        refine sY hf hs rfl rfl rfl (Y_move rfl rfl) ?_; clear hf; intro a hf
        refine sY hf hs rfl rfl rfl (Y_move rfl rfl) ?_; clear hf; intro a hf
        refine sY hf hs rfl rfl rfl (Y_move rfl rfl) ?_; clear hf; intro a hf
        obtain ⟨q32, hi33, hm29⟩ := bind_some hm29
        obtain ⟨hi33a, hi33b, hi33q⟩ := idx_some hi33
        refine sY hf hs rfl rfl rfl (Y_index rfl rfl rfl el25 ti2 (Rd.isAt (hs.rd (i := 0) rfl) (at1 (ints_at hi33q))) hi33a (ltn hn16 hi33b)) ?_; clear hf; intro a hf
        obtain ⟨xs34, hu35, hm29⟩ := bind_some hm29
        refine sStoreL (i := 0) (us := [.int .i64 x17]) (enc := ints) hf hs rfl rfl rfl rfl rfl rfl hn16 hu35 ti2 rfl rfl rfl rfl rfl ints_len1 (ints_set x17) ?_; clear hs; intro w hs
        have hs : St (muA A_p0_a_1) W w [.row A_p0_a_1 p0_a.length c_p0_a_1 2 1 (ints xs34)] := hs
        refine wpO_nil ?_
        refine wpL_region ?_
        refine sY hf hs rfl rfl rfl (Y_move rfl rfl) ?_; clear hf; intro a hf
        refine sY hf hs rfl rfl rfl (Y_add rfl rfl rfl) ?_; clear hf; intro a hf
        refine sY hf hs rfl rfl rfl (Y_assign rfl rfl) ?_; clear hf; intro a hf
        refine wpO_nil ?_
        refine wpL_nil (Qb_normal ?_)
        refine wpL_region ?_
        refine sY hf hs rfl rfl rfl (Y_move rfl rfl) ?_; clear hf; intro a hf
        refine sY hf hs rfl rfl rfl (Y_add rfl rfl rfl) ?_; clear hf; intro a hf
        refine sY hf hs rfl rfl rfl (Y_assign rfl rfl) ?_; clear hf; intro a hf
        refine wpO_nil ?_
        refine wpL_nil (Ql_normal ?_)
        exact ⟨xs34, (IntKind.i64.wrap (x17 + 1)), (IntKind.i64.wrap (x18 + 1)), hm29, ((hn16).trans (upd_len hu35).symm), (Fr.pick (Fr.pick (Fr.pick hf.none hf rfl) hf rfl) hf rfl), hs⟩
      · have hm29 := bif_f hm29 hb31
        refine wpL_exit (Ql_exit (Qb_exit ?_))
        exact ⟨xs15, x17, Option.some.inj hm29, hn16, (Fr.pick hf.none hf rfl), hs⟩
  · rintro a w ⟨xs24, x26, hr_, hn25, hf, hs⟩
    subst hr_
    try dsimp only at hm
    refine wpL_seq ?_
    refine wpL_region ?_
    refine sY hf hs rfl rfl rfl (Y_move rfl rfl) ?_; clear hf; intro a hf
    refine sY hf hs rfl rfl rfl (Y_assign rfl rfl) ?_; clear hf; intro a hf
    refine wpO_nil ?_
    obtain rfl := Option.some.inj hm
    refine wpL_ret (ret_tmp rfl hf rfl ?_)
    exact ⟨_, rfl, rfl, hn25, hs⟩

set_option maxRecDepth 100000 in
theorem laws_markTimetable_ok (F : Nat) (p0_a : GTimetable) (A_p0_a_1 : Option Addr) (n_p0_a_1 c_p0_a_1 : Nat) (hn_p0_a_1 : n_p0_a_1 = p0_a.Starts.length) (p1_k : Int) (r : (Int) × List Int) (W : World) (hm : laws_markTimetable F p0_a p1_k = some r) (h_p0_a_1 : (Res.row A_p0_a_1 n_p0_a_1 c_p0_a_1 2 1 (ints p0_a.Starts) : Res).holds 0 W) :
    Calls Try.prog 37 [.agg #[.int .i64 p0_a.Period, .slice A_p0_a_1 n_p0_a_1 c_p0_a_1], .int .i64 p1_k].toArray W fun e w' => ∃ v, e = .returned v ∧ v = .int .i64 r.1 ∧ n_p0_a_1 = r.2.length ∧ St (muA A_p0_a_1) W w' [.row A_p0_a_1 n_p0_a_1 c_p0_a_1 2 1 (ints r.2)] := by
  subst hn_p0_a_1
  unfold laws_markTimetable at hm
  refine Calls.enter (N := 10) Try.func37 rfl rfl rfl (fun a hf => ?_)
  have hs : St (muA A_p0_a_1) W W [.row A_p0_a_1 p0_a.Starts.length c_p0_a_1 2 1 (ints p0_a.Starts)] := St.startMut h_p0_a_1 (fun b hb => mem_muA hb)
  obtain ⟨w, hw_⟩ : ∃ w, w = W := ⟨W, rfl⟩
  clear hw_ w
  refine wpL_seq ?_
  refine wpL_region ?_
  refine sBox hf hs rfl rfl rfl rfl rfl (cs := [.int .i64 p0_a.Period, .slice A_p0_a_1 p0_a.Starts.length c_p0_a_1]) rfl ?_; clear hf hs; intro a w b1 hs hf
  have hs : St (muA A_p0_a_1) W w [.row A_p0_a_1 p0_a.Starts.length c_p0_a_1 2 1 (ints p0_a.Starts), .blk b1 36 [.int .i64 p0_a.Period, .slice A_p0_a_1 p0_a.Starts.length c_p0_a_1]] := hs
  refine sY hf hs rfl rfl rfl (Y_assign rfl rfl) ?_; clear hf; intro a hf
  refine wpO_nil ?_
  refine wpL_seq ?_
  refine wpL_region ?_
  refine sY hf hs rfl rfl rfl (Y_fieldAddr rfl rfl fo36_1) ?_; clear hf; intro a hf
  refine sY hf hs rfl rfl rfl (Y_load_blk rfl rfl (i := 1) rfl rfl ag25) ?_; clear hf; intro a hf
  refine sY hf hs rfl rfl rfl (Y_move rfl rfl) ?_; clear hf; intro a hf
  obtain ⟨r2, hc3, hm⟩ := bind_some hm
  refine sCall hf rfl rfl rfl rfl (cap := []) rfl rfl en38 (laws_markInt64S_ok F p0_a.Starts A_p0_a_1 p0_a.Starts.length c_p0_a_1 rfl p1_k _ _ hc3 (hs.res _ _ (show _[0]? = some _ from rfl))) ?_; clear hf
  rintro _ w ⟨rfl, hn4, hs1⟩ a hf
  have hs : St (muA A_p0_a_1) W w [.row A_p0_a_1 p0_a.Starts.length c_p0_a_1 2 1 (ints r2.2), .blk b1 36 [.int .i64 p0_a.Period, .slice A_p0_a_1 p0_a.Starts.length c_p0_a_1]] := hs.mut (i := 0) rfl (fun b hb => muA_mem hb) hs1
  clear hs1
  refine sY hf hs rfl rfl rfl (Y_assign rfl rfl) ?_; clear hf; intro a hf
  refine wpO_nil ?_
  refine wpL_seq ?_
  refine wpL_region ?_
  refine sY hf hs rfl rfl rfl (Y_move rfl rfl) ?_; clear hf; intro a hf
  refine sY hf hs rfl rfl rfl (Y_assign rfl rfl) ?_; clear hf; intro a hf
  refine wpO_nil ?_
  obtain rfl := Option.some.inj hm
  refine wpL_ret (ret_tmp rfl hf rfl ?_)
  exact ⟨_, rfl, rfl, hn4, hs.sel [0] (by decide)⟩

set_option maxRecDepth 100000 in
theorem laws_heldInt64S_ok (F : Nat) (p0_a : List Int) (A_p0_a_1 : Option Addr) (n_p0_a_1 c_p0_a_1 : Nat) (hn_p0_a_1 : n_p0_a_1 = p0_a.length) (p1_k : Int) (r : Int) (W : World) (hm : laws_heldInt64S F p0_a p1_k = some r) (h_p0_a_1 : Rd W A_p0_a_1 (ints p0_a)) :
    Calls Try.prog 41 [.slice A_p0_a_1 n_p0_a_1 c_p0_a_1, .int .i64 p1_k].toArray W fun e w' => ∃ v, e = .returned v ∧ v = .int .i64 r ∧ St [] W w' [] := by
  subst hn_p0_a_1
  unfold laws_heldInt64S at hm
  refine Calls.enter (N := 21) Try.func41 rfl rfl rfl (fun a hf => ?_)
  have hs := St.start W
  obtain ⟨w, hw_⟩ : ∃ w, w = W := ⟨W, rfl⟩
  clear hw_ w
  refine wpL_seq ?_
  refine wpL_region ?_
  refine sY hf hs rfl rfl rfl (Y_assign rfl rfl) ?_; clear hf; intro a hf
  refine wpO_nil ?_
  refine wpL_seq ?_
  refine wpL_seq ?_
  refine wpL_region ?_
  refine sY hf hs rfl rfl rfl (Y_assign rfl rfl) ?_; clear hf; intro a hf
  refine wpO_nil ?_
  obtain ⟨r18, hl19, hm⟩ := bind_some hm
  refine wpL_block (fun a w => ∃ x17 : Int, Sum.inr x17 = r18 ∧ Fr a 21 [(1, .int .i64 x17)] ∧ St [] W w []) ?_ ?_
  · refine wpL_loop (fun n a w => ∃ x11 : Int, ∃ x12 : Int, laws_heldInt64S_L1 F p0_a n x11 x12 = some r18 ∧ Fr a 21 [(0, .slice A_p0_a_1 p0_a.length c_p0_a_1), (1, .int .i64 x11), (5, .int .i64 x12)] ∧ St [] W w []) F ?_ ?_ ?_
    · exact ⟨p1_k, 0, hl19, (Fr.pick (Fr.pick (Fr.pick hf.none hf rfl) hf rfl) hf rfl), hs⟩
    · rintro a w ⟨x11, x12, h0_, -, -⟩; simp [laws_heldInt64S_L1] at h0_
    · rintro n21 a w ⟨x11, x12, hm20, hf, hs⟩
      rw [laws_heldInt64S_L1] at hm20
      refine wpL_seq ?_
      refine wpL_seq ?_
      refine wpL_region ?_
      refine sY hf hs rfl rfl rfl (Y_move rfl rfl) ?_; clear hf; intro a hf
      refine sY hf hs rfl rfl rfl (Y_move rfl rfl) ?_; clear hf; intro a hf
      refine sY hf hs rfl rfl rfl (Y_lenH rfl rfl el25 rfl) ?_; clear hf; intro a hf
      refine sY hf hs rfl rfl rfl (Y_lss rfl rfl rfl) ?_; clear hf; intro a hf
      refine wpO_nil ?_
      refine wpL_cond hf rfl (fun hb22 => ?_) (fun hb22 => ?_)
      · have hm20 := bif_t hm20 hb22
        refine wpL_skip ?_
        refine wpL_seq ?_
        refine wpL_block0 ?_
        refine wpL_seq ?_
        refine wpL_seq ?_
        refine wpL_region ?_
        refine sY hf hs rfl rfl rfl (Y_move rfl rfl) ?_; clear hf; intro a hf
        refine sY hf hs rfl rfl rfl (Y_move rfl rfl) ?_; clear hf; intro a hf
        obtain ⟨q23, hi24, hm20⟩ := bind_some hm20
        obtain ⟨hi24a, hi24b, hi24q⟩ := idx_some hi24
        refine sY hf hs rfl rfl rfl (Y_index rfl rfl rfl el25 ti2 (Rd.isAt (h_p0_a_1.at hs) (at1 (ints_at hi24q))) hi24a hi24b) ?_; clear hf; intro a hf
        refine sY hf hs rfl rfl rfl (Y_load_rd rfl rfl (fun w hs => h_p0_a_1.at hs) (at1 (ints_at hi24q)) ag2) ?_; clear hf; intro a hf
        refine sY hf hs rfl rfl rfl (Y_move rfl rfl) ?_; clear hf; intro a hf
        refine sY hf hs rfl rfl rfl (Y_neq rfl rfl rfl) ?_; clear hf; intro a hf
        refine wpO_nil ?_
        refine wpL_cond hf rfl (fun hb25 => ?_) (fun hb25 => ?_)
        · have hm20 := bif_t hm20 hb25
          refine wpL_seq ?_
          refine wpL_region ?_
          refine sY hf hs rfl rfl rfl (Y_assign rfl rfl) ?_; clear hf; intro a hf
          refine wpO_nil ?_
          obtain rfl := Option.some.inj hm20
          try dsimp only at hm
          obtain rfl := Option.some.inj hm
          refine wpL_ret (Qb_ret (Ql_ret (Qb_ret (ret_tmp rfl hf rfl ?_))))
          exact ⟨_, rfl, rfl, hs⟩
        · have hm20 := bif_f hm20 hb25
          refine wpL_skip ?_
          refine wpL_region ?_
          refine sY hf hs rfl rfl rfl (Y_move rfl rfl) ?_; clear hf; intro a hf
          refine sY hf hs rfl rfl rfl (Y_add rfl rfl rfl) ?_; clear hf; intro a hf
          refine sY hf hs rfl rfl rfl (Y_assign rfl rfl) ?_; clear hf; intro a hf
          refine wpO_nil ?_
          refine wpL_nil (Qb_normal ?_)
          refine wpL_region ?_
          refine sY hf hs rfl rfl rfl (Y_move rfl rfl) ?_; clear hf; intro a hf
          refine sY hf hs rfl rfl rfl (Y_add rfl rfl rfl) ?_; clear hf; intro a hf
          refine sY hf hs rfl rfl rfl (Y_assign rfl rfl) ?_; clear hf; intro a hf
          refine wpO_nil ?_
          refine wpL_nil (Ql_normal ?_)
          exact ⟨(IntKind.i64.wrap (x11 + 1)), (IntKind.i64.wrap (x12 + 1)), hm20, (Fr.pick (Fr.pick (Fr.pick hf.none hf rfl) hf rfl) hf rfl), hs⟩
      · have hm20 := bif_f hm20 hb22
        refine wpL_exit (Ql_exit (Qb_exit ?_))
        exact ⟨x11, Option.some.inj hm20, (Fr.pick hf.none hf rfl), hs⟩
  · rintro a w ⟨x17, hr_, hf, hs⟩
    subst hr_
    try dsimp only at hm
    refine wpL_seq ?_
    refine wpL_region ?_
    refine sY hf hs rfl rfl rfl (Y_move rfl rfl) ?_; clear hf; intro a hf
    refine sY hf hs rfl rfl rfl (Y_assign rfl rfl) ?_; clear hf; intro a hf
    refine wpO_nil ?_
    obtain rfl := Option.some.inj hm
    refine wpL_ret (ret_tmp rfl hf rfl ?_)
    exact ⟨_, rfl, rfl, hs⟩

set_option maxRecDepth 100000 in
theorem laws_heldTimetable_ok (F : Nat) (p0_a : GTimetable) (A_p0_a_1 : Option Addr) (n_p0_a_1 c_p0_a_1 : Nat) (hn_p0_a_1 : n_p0_a_1 = p0_a.Starts.length) (p1_k : Int) (r : Int) (W : World) (hm : laws_heldTimetable F p0_a p1_k = some r) (h_p0_a_1 : Rd W A_p0_a_1 (ints p0_a.Starts)) :
    Calls Try.prog 56 [.agg #[.int .i64 p0_a.Period, .slice A_p0_a_1 n_p0_a_1 c_p0_a_1], .int .i64 p1_k].toArray W fun e w' => ∃ v, e = .returned v ∧ v = .int .i64 r ∧ St [] W w' [] := by
  subst hn_p0_a_1
  unfold laws_heldTimetable at hm
  refine Calls.enter (N := 12) Try.func56 rfl rfl rfl (fun a hf => ?_)
  have hs := St.start W
  obtain ⟨w, hw_⟩ : ∃ w, w = W := ⟨W, rfl⟩
  clear hw_ w
  refine wpL_seq ?_
  refine wpL_region ?_
  refine sBox hf hs rfl rfl rfl rfl rfl (cs := [.int .i64 p0_a.Period, .slice A_p0_a_1 p0_a.Starts.length c_p0_a_1]) rfl ?_; clear hf hs; intro a w b1 hs hf
  have hs : St [] W w [.blk b1 36 [.int .i64 p0_a.Period, .slice A_p0_a_1 p0_a.Starts.length c_p0_a_1]] := hs
  refine sY hf hs rfl rfl rfl (Y_assign rfl rfl) ?_; clear hf; intro a hf
  refine wpO_nil ?_
  refine wpL_seq ?_
  refine wpL_region ?_
  refine sY hf hs rfl rfl rfl (Y_fieldAddr rfl rfl fo36_1) ?_; clear hf; intro a hf
  refine sY hf hs rfl rfl rfl (Y_load_blk rfl rfl (i := 0) rfl rfl ag25) ?_; clear hf; intro a hf
  refine sY hf hs rfl rfl rfl (Y_move rfl rfl) ?_; clear hf; intro a hf
  obtain ⟨r2, hc3, hm⟩ := bind_some hm
  refine sCall hf rfl rfl rfl rfl (cap := []) rfl rfl en41 (laws_heldInt64S_ok F p0_a.Starts A_p0_a_1 p0_a.Starts.length c_p0_a_1 rfl p1_k _ _ hc3 (h_p0_a_1.at hs)) ?_; clear hf
  rintro _ w ⟨rfl, hs1⟩ a hf
  have hs : St [] W w [.blk b1 36 [.int .i64 p0_a.Period, .slice A_p0_a_1 p0_a.Starts.length c_p0_a_1]] := hs.ext hs1.below
  clear hs1
  refine sY hf hs rfl rfl rfl (Y_assign rfl rfl) ?_; clear hf; intro a hf
  refine wpO_nil ?_
  refine wpL_seq ?_
  refine wpL_seq ?_
  refine wpL_region ?_
  refine sY hf hs rfl rfl rfl (Y_move rfl rfl) ?_; clear hf; intro a hf
  refine sY hf hs rfl rfl rfl (Y_lss rfl rfl rfl) ?_; clear hf; intro a hf
  refine wpO_nil ?_
  refine wpL_cond hf rfl (fun hb4 => ?_) (fun hb4 => ?_)
  · have hm := bif_t hm hb4
    refine wpL_seq ?_
    refine wpL_region ?_
    refine sY hf hs rfl rfl rfl (Y_assign rfl rfl) ?_; clear hf; intro a hf
    refine wpO_nil ?_
    obtain rfl := Option.some.inj hm
    refine wpL_ret (ret_tmp rfl hf rfl ?_)
    exact ⟨_, rfl, rfl, hs.sel [] (by decide)⟩
  · have hm := bif_f hm hb4
    refine wpL_skip ?_
    refine wpL_seq ?_
    refine wpL_region ?_
    refine sY hf hs rfl rfl rfl (Y_move rfl rfl) ?_; clear hf; intro a hf
    refine sY hf hs rfl rfl rfl (Y_assign rfl rfl) ?_; clear hf; intro a hf
    refine wpO_nil ?_
    obtain rfl := Option.some.inj hm
    refine wpL_ret (ret_tmp rfl hf rfl ?_)
    exact ⟨_, rfl, rfl, hs.sel [] (by decide)⟩

set_option maxRecDepth 100000 in
theorem laws_FnExactShiftTimetable_ok (F : Nat) (p0 : LEventGraph) (A_p0_1 : Option Addr) (n_p0_1 c_p0_1 : Nat) (hn_p0_1 : n_p0_1 = p0.Places.length) (p1 : LTimetable) (A_p1_1 : Option Addr) (n_p1_1 c_p1_1 : Nat) (hn_p1_1 : n_p1_1 = p1.Starts.length) (p2 : Int) (r : Bool) (W : World) (hm : laws_FnExactShiftTimetable F p0 p1 p2 = some r) (h_p0_1 : Rd W A_p0_1 ((recs LPlace.cells) p0.Places)) (h_p1_1 : Rd W A_p1_1 (ints p1.Starts)) :
    Calls Try.prog 14 [.agg #[.int .i64 p0.Events, .slice A_p0_1 n_p0_1 c_p0_1], .agg #[.int .i64 p1.Period, .slice A_p1_1 n_p1_1 c_p1_1], .int .i64 p2].toArray W fun e w' => ∃ v, e = .returned v ∧ v = .bool r ∧ St [] W w' [] := by
  subst hn_p0_1
  subst hn_p1_1
  unfold laws_FnExactShiftTimetable at hm
  refine Calls.enter (N := 124) Try.func14 rfl rfl rfl (fun a hf => ?_)
  have hs := St.start W
  obtain ⟨w, hw_⟩ : ∃ w, w = W := ⟨W, rfl⟩
  clear hw_ w
  refine wpL_seq ?_
  refine wpL_region ?_
  refine sBox hf hs rfl rfl rfl rfl rfl (cs := [.int .i64 p0.Events, .slice A_p0_1 p0.Places.length c_p0_1]) rfl ?_; clear hf hs; intro a w b1 hs hf
  have hs : St [] W w [.blk b1 24 [.int .i64 p0.Events, .slice A_p0_1 p0.Places.length c_p0_1]] := hs
  refine sBox hf hs rfl rfl rfl rfl rfl (cs := [.int .i64 p1.Period, .slice A_p1_1 p1.Starts.length c_p1_1]) rfl ?_; clear hf hs; intro a w b2 hs hf
  have hs : St [] W w [.blk b1 24 [.int .i64 p0.Events, .slice A_p0_1 p0.Places.length c_p0_1], .blk b2 27 [.int .i64 p1.Period, .slice A_p1_1 p1.Starts.length c_p1_1]] := hs
  refine sY hf hs rfl rfl rfl (Y_assign rfl rfl) ?_; clear hf; intro a hf
  refine wpO_nil ?_
  refine wpL_seq ?_
  refine wpL_region ?_
  refine sY hf hs rfl rfl rfl (Y_assign rfl rfl) ?_; clear hf; intro a hf
  refine wpO_nil ?_
  refine wpL_seq ?_
  refine wpL_region ?_
  refine sY hf hs rfl rfl rfl (Y_load_blkS rfl rfl (i := 0) rfl ag24 ti24 rfl) ?_; clear hf; intro a hf
  refine sY hf hs rfl rfl rfl (Y_move rfl rfl) ?_; clear hf; intro a hf
  obtain ⟨r3, hc4, hm⟩ := bind_some hm
  refine sCall hf rfl rfl rfl rfl (cap := []) rfl rfl en15 (laws_szEventGraph_ok F p0 A_p0_1 p0.Places.length c_p0_1 rfl 1048576 _ _ hc4 (h_p0_1.at hs)) ?_; clear hf
  rintro _ w ⟨rfl, hs1⟩ a hf
  have hs : St [] W w [.blk b1 24 [.int .i64 p0.Events, .slice A_p0_1 p0.Places.length c_p0_1], .blk b2 27 [.int .i64 p1.Period, .slice A_p1_1 p1.Starts.length c_p1_1]] := hs.ext hs1.below
  clear hs1
  refine sY hf hs rfl rfl rfl (Y_assign rfl rfl) ?_; clear hf; intro a hf
  refine wpO_nil ?_
  refine wpL_seq ?_
  refine wpL_seq ?_
  refine wpL_region ?_
  refine sY hf hs rfl rfl rfl (Y_move rfl rfl) ?_; clear hf; intro a hf
  refine sY hf hs rfl rfl rfl (Y_lss rfl rfl rfl) ?_; clear hf; intro a hf
  refine wpO_nil ?_
  refine wpL_cond hf rfl (fun hb5 => ?_) (fun hb5 => ?_)
  · have hm := bif_t hm hb5
    refine wpL_seq ?_
    refine wpL_region ?_
    refine sY hf hs rfl rfl rfl (Y_assign rfl rfl) ?_; clear hf; intro a hf
    refine wpO_nil ?_
    obtain rfl := Option.some.inj hm
    refine wpL_ret (ret_tmp rfl hf rfl ?_)
    exact ⟨_, rfl, rfl, hs.sel [] (by decide)⟩
  · have hm := bif_f hm hb5
    refine wpL_skip ?_
    refine wpL_seq ?_
    refine wpL_region ?_
    refine sY hf hs rfl rfl rfl (Y_load_blkS rfl rfl (i := 1) rfl ag27 ti27 rfl) ?_; clear hf; intro a hf
    refine sY hf hs rfl rfl rfl (Y_move rfl rfl) ?_; clear hf; intro a hf
    obtain ⟨r6, hc7, hm⟩ := bind_some hm
    refine sCall hf rfl rfl rfl rfl (cap := []) rfl rfl en16 (laws_szTimetable_ok F p1 A_p1_1 p1.Starts.length c_p1_1 rfl r3 _ _ hc7 (h_p1_1.at hs)) ?_; clear hf
    rintro _ w ⟨rfl, hs1⟩ a hf
    have hs : St [] W w [.blk b1 24 [.int .i64 p0.Events, .slice A_p0_1 p0.Places.length c_p0_1], .blk b2 27 [.int .i64 p1.Period, .slice A_p1_1 p1.Starts.length c_p1_1]] := hs.ext hs1.below
    clear hs1
    refine sY hf hs rfl rfl rfl (Y_assign rfl rfl) ?_; clear hf; intro a hf
    refine wpO_nil ?_
    refine wpL_seq ?_
    refine wpL_seq ?_
    refine wpL_region ?_
    refine sY hf hs rfl rfl rfl (Y_move rfl rfl) ?_; clear hf; intro a hf
    refine sY hf hs rfl rfl rfl (Y_lss rfl rfl rfl) ?_; clear hf; intro a hf
    refine wpO_nil ?_
    refine wpL_cond hf rfl (fun hb8 => ?_) (fun hb8 => ?_)
    · have hm := bif_t hm hb8
      refine wpL_seq ?_
      refine wpL_region ?_
      refine sY hf hs rfl rfl rfl (Y_assign rfl rfl) ?_; clear hf; intro a hf
      refine wpO_nil ?_
      obtain rfl := Option.some.inj hm
      refine wpL_ret (ret_tmp rfl hf rfl ?_)
      exact ⟨_, rfl, rfl, hs.sel [] (by decide)⟩
    · have hm := bif_f hm hb8
      refine wpL_skip ?_
      refine wpL_seq ?_
      obtain ⟨r94, hj95, hm⟩ := bind_some hm
      refine wpL_cut (fun a w => ∃ x87 : Int, ∃ xs88 : List Int, ∃ x93 : Int, ∃ b86, ∃ A89, ∃ n90, ∃ c91, (x87, xs88, x93) = r94 ∧ n90 = xs88.length ∧ Fr a 124 [(2, .int .i64 p2), (3, .pointer (some ⟨b1, 0, none⟩)), (4, .pointer (some ⟨b2, 0, none⟩)), (8, .pointer (some ⟨b86, 0, none⟩)), (9, .int .i64 x93)] ∧ St [] W w [.blk b1 24 [.int .i64 p0.Events, .slice A_p0_1 p0.Places.length c_p0_1], .blk b2 27 [.int .i64 p1.Period, .slice A_p1_1 p1.Starts.length c_p1_1], .blk b86 36 [.int .i64 x87, .slice A89 n90 c91], .row A89 n90 c91 2 1 (ints xs88)]) ?_ ?_
      · refine wpL_drawG [.blk b1 24 [.int .i64 p0.Events, .slice A_p0_1 p0.Places.length c_p0_1], .blk b2 27 [.int .i64 p1.Period, .slice A_p1_1 p1.Starts.length c_p1_1]] 12 (by kernel_rfl) hs ?_; clear hs; intro w hs
        have hs0 : St [] W w [.blk b1 24 [.int .i64 p0.Events, .slice A_p0_1 p0.Places.length c_p0_1], .blk b2 27 [.int .i64 p1.Period, .slice A_p1_1 p1.Starts.length c_p1_1]] := hs
        refine gY (i := 0) [] rfl (by kernel_rfl) (by kernel_rfl) hf hs0 rfl rfl rfl (Y_load_blkS rfl rfl (i := 0) rfl ag24 ti24 rfl) ?_; clear hf; intro a hf
        refine gY (i := 2) [] rfl (by kernel_rfl) (by kernel_rfl) hf hs0 rfl rfl rfl (Y_load_blkS rfl rfl (i := 1) rfl ag27 ti27 rfl) ?_; clear hf; intro a hf
        refine gY (i := 4) [] rfl (by kernel_rfl) (by kernel_rfl) hf hs0 rfl rfl rfl (Y_move rfl rfl) ?_; clear hf; intro a hf
        refine gRun2 (i := 1) (j := 9) rfl rfl (by kernel_rfl) ?_ ?_
        · obtain ⟨r115, hc116, hj95⟩ := bind_some hj95
          refine sCall hf rfl rfl rfl rfl (cap := []) rfl rfl en18 (laws_toEventGraph_ok F p0 A_p0_1 p0.Places.length c_p0_1 rfl _ _ hc116 (h_p0_1.at hs)) ?_; clear hf
          rintro _ w ⟨A117, n118, c119, rfl, hn120, hs1⟩ a hf
          have hs : St [] W w [.blk b1 24 [.int .i64 p0.Events, .slice A_p0_1 p0.Places.length c_p0_1], .blk b2 27 [.int .i64 p1.Period, .slice A_p1_1 p1.Starts.length c_p1_1], .row A117 n118 c119 71 4 ((recs GPlace.cells) r115.Places)] := hs.join hs1
          clear hs1
          have hs0 : St [] W w [.blk b1 24 [.int .i64 p0.Events, .slice A_p0_1 p0.Places.length c_p0_1], .blk b2 27 [.int .i64 p1.Period, .slice A_p1_1 p1.Starts.length c_p1_1]] := hs.sel [0, 1] (by decide)
          refine wpO_nil ⟨Or.inr hs0, ?_⟩
          refine gRun2 (i := 3) (j := 9) rfl rfl (by kernel_rfl) ?_ ?_
          · obtain ⟨r121, hc122, hj95⟩ := bind_some hj95
            refine sCall hf rfl rfl rfl rfl (cap := []) rfl rfl en19 (laws_toTimetable_ok F p1 A_p1_1 p1.Starts.length c_p1_1 rfl _ _ hc122 (h_p1_1.at hs)) ?_; clear hf
            rintro _ w ⟨A123, n124, c125, rfl, hn126, hs1⟩ a hf
            have hs : St [] W w [.blk b1 24 [.int .i64 p0.Events, .slice A_p0_1 p0.Places.length c_p0_1], .blk b2 27 [.int .i64 p1.Period, .slice A_p1_1 p1.Starts.length c_p1_1], .row A117 n118 c119 71 4 ((recs GPlace.cells) r115.Places), .row A123 n124 c125 2 1 (ints r121.Starts)] := hs.join hs1
            clear hs1
            have hs0 : St [] W w [.blk b1 24 [.int .i64 p0.Events, .slice A_p0_1 p0.Places.length c_p0_1], .blk b2 27 [.int .i64 p1.Period, .slice A_p1_1 p1.Starts.length c_p1_1]] := hs.sel [0, 1] (by decide)
            refine wpO_nil ⟨Or.inr hs0, ?_⟩
            refine gRun2 (i := 5) (j := 9) rfl rfl (by kernel_rfl) ?_ ?_
            · obtain ⟨r127, hc128, hj95⟩ := bind_some hj95
              refine sCall hf rfl rfl rfl rfl (cap := []) rfl rfl en54 (spec_ShiftTimetable_ok F r115 A117 n118 c119 hn120 r121 A123 n124 c125 hn126 p2 _ _ hc128 (hs.rd (i := 2) rfl) (hs.rd (i := 3) rfl)) ?_; clear hf
              rintro _ w ⟨A129, n130, c131, rfl, hn132, hs1⟩ a hf
              have hs : St [] W w [.blk b1 24 [.int .i64 p0.Events, .slice A_p0_1 p0.Places.length c_p0_1], .blk b2 27 [.int .i64 p1.Period, .slice A_p1_1 p1.Starts.length c_p1_1], .row A117 n118 c119 71 4 ((recs GPlace.cells) r115.Places), .row A123 n124 c125 2 1 (ints r121.Starts), .row A129 n130 c131 2 1 (ints r127.1.Starts)] := hs.join hs1
              clear hs1
              have hs0 : St [] W w [.blk b1 24 [.int .i64 p0.Events, .slice A_p0_1 p0.Places.length c_p0_1], .blk b2 27 [.int .i64 p1.Period, .slice A_p1_1 p1.Starts.length c_p1_1]] := hs.sel [0, 1] (by decide)
              refine wpO_nil ⟨Or.inr hs0, ?_⟩
              refine gY (i := 6) [] rfl (by kernel_rfl) (by kernel_rfl) hf hs0 rfl rfl rfl (Y_move rfl rfl) ?_; clear hf; intro a hf
              refine gY (i := 7) [] rfl (by kernel_rfl) (by kernel_rfl) hf hs0 rfl rfl rfl (Y_extract rfl rfl rfl) ?_; clear hf; intro a hf
              refine gY (i := 8) [] rfl (by kernel_rfl) (by kernel_rfl) hf hs0 rfl rfl rfl (Y_extract rfl rfl rfl) ?_; clear hf; intro a hf
              refine gRun (i := 9) rfl (by kernel_rfl) ?_
              refine sAlloc hf hs rfl rfl rfl rfl ti36 ?_; clear hf hs; intro a w b133 hs hf
              have hs : St [] W w [.blk b1 24 [.int .i64 p0.Events, .slice A_p0_1 p0.Places.length c_p0_1], .blk b2 27 [.int .i64 p1.Period, .slice A_p1_1 p1.Starts.length c_p1_1], .row A117 n118 c119 71 4 ((recs GPlace.cells) r115.Places), .row A123 n124 c125 2 1 (ints r121.Starts), .row A129 n130 c131 2 1 (ints r127.1.Starts), .blk b133 36 [.int .i64 0, .slice none 0 0]] := hs
              have hs0 : St [] W w [.blk b1 24 [.int .i64 p0.Events, .slice A_p0_1 p0.Places.length c_p0_1], .blk b2 27 [.int .i64 p1.Period, .slice A_p1_1 p1.Starts.length c_p1_1]] := hs.sel [0, 1] (by decide)
              refine wpO_nil ⟨Or.inr hs0, ?_⟩
              refine gRun (i := 10) rfl (by kernel_rfl) ?_
              refine sStore (i := 5) (us := [.int .i64 r127.1.Period, .slice A129 n130 c131]) hf hs rfl rfl rfl rfl rfl rfl ti36 rfl rfl rfl (Nat.le_of_ble_eq_true rfl) rfl ?_; clear hs; intro w hs
              have hs : St [] W w [.blk b1 24 [.int .i64 p0.Events, .slice A_p0_1 p0.Places.length c_p0_1], .blk b2 27 [.int .i64 p1.Period, .slice A_p1_1 p1.Starts.length c_p1_1], .row A117 n118 c119 71 4 ((recs GPlace.cells) r115.Places), .row A123 n124 c125 2 1 (ints r121.Starts), .row A129 n130 c131 2 1 (ints r127.1.Starts), .blk b133 36 [.int .i64 r127.1.Period, .slice A129 n130 c131]] := hs
              have hs0 : St [] W w [.blk b1 24 [.int .i64 p0.Events, .slice A_p0_1 p0.Places.length c_p0_1], .blk b2 27 [.int .i64 p1.Period, .slice A_p1_1 p1.Starts.length c_p1_1]] := hs.sel [0, 1] (by decide)
              refine wpO_nil ⟨Or.inr hs0, ?_⟩
              refine gY (i := 11) [] rfl (by kernel_rfl) (by kernel_rfl) hf hs0 rfl rfl rfl (Y_assign rfl rfl) ?_; clear hf; intro a hf
              refine gDone (by kernel_rfl) ?_
              clear hs0
              refine wpL_nil (then_normal ?_)
              exact ⟨r127.1.Period, r127.1.Starts, r127.2, b133, A129, n130, c131, Option.some.inj hj95, hn132, (Fr.pick (Fr.pick (Fr.pick (Fr.pick (Fr.pick hf.none hf rfl) hf rfl) hf rfl) hf rfl) hf rfl), hs.sel [0, 1, 5, 4] (by decide)⟩
            · refine sAlloc hf hs rfl rfl rfl rfl ti36 ?_; clear hf hs; intro a w b134 hs hf
              have hs : St [] W w [.blk b1 24 [.int .i64 p0.Events, .slice A_p0_1 p0.Places.length c_p0_1], .blk b2 27 [.int .i64 p1.Period, .slice A_p1_1 p1.Starts.length c_p1_1], .row A117 n118 c119 71 4 ((recs GPlace.cells) r115.Places), .row A123 n124 c125 2 1 (ints r121.Starts), .blk b134 36 [.int .i64 0, .slice none 0 0]] := hs
              have hs0 : St [] W w [.blk b1 24 [.int .i64 p0.Events, .slice A_p0_1 p0.Places.length c_p0_1], .blk b2 27 [.int .i64 p1.Period, .slice A_p1_1 p1.Starts.length c_p1_1]] := hs.sel [0, 1] (by decide)
              refine wpO_nil ⟨Or.inr hs0, ?_⟩
              refine gRun (i := 5) rfl (by kernel_rfl) ?_
              obtain ⟨r135, hc136, hj95⟩ := bind_some hj95
              refine sCall hf rfl rfl rfl rfl (cap := []) rfl rfl en54 (spec_ShiftTimetable_ok F r115 A117 n118 c119 hn120 r121 A123 n124 c125 hn126 p2 _ _ hc136 (hs.rd (i := 2) rfl) (hs.rd (i := 3) rfl)) ?_; clear hf
              rintro _ w ⟨A137, n138, c139, rfl, hn140, hs1⟩ a hf
              have hs : St [] W w [.blk b1 24 [.int .i64 p0.Events, .slice A_p0_1 p0.Places.length c_p0_1], .blk b2 27 [.int .i64 p1.Period, .slice A_p1_1 p1.Starts.length c_p1_1], .row A117 n118 c119 71 4 ((recs GPlace.cells) r115.Places), .row A123 n124 c125 2 1 (ints r121.Starts), .blk b134 36 [.int .i64 0, .slice none 0 0], .row A137 n138 c139 2 1 (ints r135.1.Starts)] := hs.join hs1
              clear hs1
              have hs0 : St [] W w [.blk b1 24 [.int .i64 p0.Events, .slice A_p0_1 p0.Places.length c_p0_1], .blk b2 27 [.int .i64 p1.Period, .slice A_p1_1 p1.Starts.length c_p1_1]] := hs.sel [0, 1] (by decide)
              refine wpO_nil ⟨Or.inr hs0, ?_⟩
              refine gY (i := 6) [] rfl (by kernel_rfl) (by kernel_rfl) hf hs0 rfl rfl rfl (Y_move rfl rfl) ?_; clear hf; intro a hf
              refine gY (i := 7) [] rfl (by kernel_rfl) (by kernel_rfl) hf hs0 rfl rfl rfl (Y_extract rfl rfl rfl) ?_; clear hf; intro a hf
              refine gY (i := 8) [] rfl (by kernel_rfl) (by kernel_rfl) hf hs0 rfl rfl rfl (Y_extract rfl rfl rfl) ?_; clear hf; intro a hf
              refine gRun (i := 10) rfl (by kernel_rfl) ?_
              refine sStore (i := 4) (us := [.int .i64 r135.1.Period, .slice A137 n138 c139]) hf hs rfl rfl rfl rfl rfl rfl ti36 rfl rfl rfl (Nat.le_of_ble_eq_true rfl) rfl ?_; clear hs; intro w hs
              have hs : St [] W w [.blk b1 24 [.int .i64 p0.Events, .slice A_p0_1 p0.Places.length c_p0_1], .blk b2 27 [.int .i64 p1.Period, .slice A_p1_1 p1.Starts.length c_p1_1], .row A117 n118 c119 71 4 ((recs GPlace.cells) r115.Places), .row A123 n124 c125 2 1 (ints r121.Starts), .blk b134 36 [.int .i64 r135.1.Period, .slice A137 n138 c139], .row A137 n138 c139 2 1 (ints r135.1.Starts)] := hs
              have hs0 : St [] W w [.blk b1 24 [.int .i64 p0.Events, .slice A_p0_1 p0.Places.length c_p0_1], .blk b2 27 [.int .i64 p1.Period, .slice A_p1_1 p1.Starts.length c_p1_1]] := hs.sel [0, 1] (by decide)
              refine wpO_nil ⟨Or.inr hs0, ?_⟩
              refine gY (i := 11) [] rfl (by kernel_rfl) (by kernel_rfl) hf hs0 rfl rfl rfl (Y_assign rfl rfl) ?_; clear hf; intro a hf
              refine gDone (by kernel_rfl) ?_
              clear hs0
              refine wpL_nil (then_normal ?_)
              exact ⟨r135.1.Period, r135.1.Starts, r135.2, b134, A137, n138, c139, Option.some.inj hj95, hn140, (Fr.pick (Fr.pick (Fr.pick (Fr.pick (Fr.pick hf.none hf rfl) hf rfl) hf rfl) hf rfl) hf rfl), hs.sel [0, 1, 4, 5] (by decide)⟩
          · refine sAlloc hf hs rfl rfl rfl rfl ti36 ?_; clear hf hs; intro a w b141 hs hf
            have hs : St [] W w [.blk b1 24 [.int .i64 p0.Events, .slice A_p0_1 p0.Places.length c_p0_1], .blk b2 27 [.int .i64 p1.Period, .slice A_p1_1 p1.Starts.length c_p1_1], .row A117 n118 c119 71 4 ((recs GPlace.cells) r115.Places), .blk b141 36 [.int .i64 0, .slice none 0 0]] := hs
            have hs0 : St [] W w [.blk b1 24 [.int .i64 p0.Events, .slice A_p0_1 p0.Places.length c_p0_1], .blk b2 27 [.int .i64 p1.Period, .slice A_p1_1 p1.Starts.length c_p1_1]] := hs.sel [0, 1] (by decide)
            refine wpO_nil ⟨Or.inr hs0, ?_⟩
            refine gRun (i := 3) rfl (by kernel_rfl) ?_
            obtain ⟨r142, hc143, hj95⟩ := bind_some hj95
            refine sCall hf rfl rfl rfl rfl (cap := []) rfl rfl en19 (laws_toTimetable_ok F p1 A_p1_1 p1.Starts.length c_p1_1 rfl _ _ hc143 (h_p1_1.at hs)) ?_; clear hf
            rintro _ w ⟨A144, n145, c146, rfl, hn147, hs1⟩ a hf
            have hs : St [] W w [.blk b1 24 [.int .i64 p0.Events, .slice A_p0_1 p0.Places.length c_p0_1], .blk b2 27 [.int .i64 p1.Period, .slice A_p1_1 p1.Starts.length c_p1_1], .row A117 n118 c119 71 4 ((recs GPlace.cells) r115.Places), .blk b141 36 [.int .i64 0, .slice none 0 0], .row A144 n145 c146 2 1 (ints r142.Starts)] := hs.join hs1
            clear hs1
            have hs0 : St [] W w [.blk b1 24 [.int .i64 p0.Events, .slice A_p0_1 p0.Places.length c_p0_1], .blk b2 27 [.int .i64 p1.Period, .slice A_p1_1 p1.Starts.length c_p1_1]] := hs.sel [0, 1] (by decide)
            refine wpO_nil ⟨Or.inr hs0, ?_⟩
            refine gRun (i := 5) rfl (by kernel_rfl) ?_
            obtain ⟨r148, hc149, hj95⟩ := bind_some hj95
            refine sCall hf rfl rfl rfl rfl (cap := []) rfl rfl en54 (spec_ShiftTimetable_ok F r115 A117 n118 c119 hn120 r142 A144 n145 c146 hn147 p2 _ _ hc149 (hs.rd (i := 2) rfl) (hs.rd (i := 4) rfl)) ?_; clear hf
            rintro _ w ⟨A150, n151, c152, rfl, hn153, hs1⟩ a hf
            have hs : St [] W w [.blk b1 24 [.int .i64 p0.Events, .slice A_p0_1 p0.Places.length c_p0_1], .blk b2 27 [.int .i64 p1.Period, .slice A_p1_1 p1.Starts.length c_p1_1], .row A117 n118 c119 71 4 ((recs GPlace.cells) r115.Places), .blk b141 36 [.int .i64 0, .slice none 0 0], .row A144 n145 c146 2 1 (ints r142.Starts), .row A150 n151 c152 2 1 (ints r148.1.Starts)] := hs.join hs1
            clear hs1
            have hs0 : St [] W w [.blk b1 24 [.int .i64 p0.Events, .slice A_p0_1 p0.Places.length c_p0_1], .blk b2 27 [.int .i64 p1.Period, .slice A_p1_1 p1.Starts.length c_p1_1]] := hs.sel [0, 1] (by decide)
            refine wpO_nil ⟨Or.inr hs0, ?_⟩
            refine gY (i := 6) [] rfl (by kernel_rfl) (by kernel_rfl) hf hs0 rfl rfl rfl (Y_move rfl rfl) ?_; clear hf; intro a hf
            refine gY (i := 7) [] rfl (by kernel_rfl) (by kernel_rfl) hf hs0 rfl rfl rfl (Y_extract rfl rfl rfl) ?_; clear hf; intro a hf
            refine gY (i := 8) [] rfl (by kernel_rfl) (by kernel_rfl) hf hs0 rfl rfl rfl (Y_extract rfl rfl rfl) ?_; clear hf; intro a hf
            refine gRun (i := 10) rfl (by kernel_rfl) ?_
            refine sStore (i := 3) (us := [.int .i64 r148.1.Period, .slice A150 n151 c152]) hf hs rfl rfl rfl rfl rfl rfl ti36 rfl rfl rfl (Nat.le_of_ble_eq_true rfl) rfl ?_; clear hs; intro w hs
            have hs : St [] W w [.blk b1 24 [.int .i64 p0.Events, .slice A_p0_1 p0.Places.length c_p0_1], .blk b2 27 [.int .i64 p1.Period, .slice A_p1_1 p1.Starts.length c_p1_1], .row A117 n118 c119 71 4 ((recs GPlace.cells) r115.Places), .blk b141 36 [.int .i64 r148.1.Period, .slice A150 n151 c152], .row A144 n145 c146 2 1 (ints r142.Starts), .row A150 n151 c152 2 1 (ints r148.1.Starts)] := hs
            have hs0 : St [] W w [.blk b1 24 [.int .i64 p0.Events, .slice A_p0_1 p0.Places.length c_p0_1], .blk b2 27 [.int .i64 p1.Period, .slice A_p1_1 p1.Starts.length c_p1_1]] := hs.sel [0, 1] (by decide)
            refine wpO_nil ⟨Or.inr hs0, ?_⟩
            refine gY (i := 11) [] rfl (by kernel_rfl) (by kernel_rfl) hf hs0 rfl rfl rfl (Y_assign rfl rfl) ?_; clear hf; intro a hf
            refine gDone (by kernel_rfl) ?_
            clear hs0
            refine wpL_nil (then_normal ?_)
            exact ⟨r148.1.Period, r148.1.Starts, r148.2, b141, A150, n151, c152, Option.some.inj hj95, hn153, (Fr.pick (Fr.pick (Fr.pick (Fr.pick (Fr.pick hf.none hf rfl) hf rfl) hf rfl) hf rfl) hf rfl), hs.sel [0, 1, 3, 5] (by decide)⟩
        · refine sAlloc hf hs rfl rfl rfl rfl ti36 ?_; clear hf hs; intro a w b154 hs hf
          have hs : St [] W w [.blk b1 24 [.int .i64 p0.Events, .slice A_p0_1 p0.Places.length c_p0_1], .blk b2 27 [.int .i64 p1.Period, .slice A_p1_1 p1.Starts.length c_p1_1], .blk b154 36 [.int .i64 0, .slice none 0 0]] := hs
          have hs0 : St [] W w [.blk b1 24 [.int .i64 p0.Events, .slice A_p0_1 p0.Places.length c_p0_1], .blk b2 27 [.int .i64 p1.Period, .slice A_p1_1 p1.Starts.length c_p1_1]] := hs.sel [0, 1] (by decide)
          refine wpO_nil ⟨Or.inr hs0, ?_⟩
          refine gRun (i := 1) rfl (by kernel_rfl) ?_
          obtain ⟨r155, hc156, hj95⟩ := bind_some hj95
          refine sCall hf rfl rfl rfl rfl (cap := []) rfl rfl en18 (laws_toEventGraph_ok F p0 A_p0_1 p0.Places.length c_p0_1 rfl _ _ hc156 (h_p0_1.at hs)) ?_; clear hf
          rintro _ w ⟨A157, n158, c159, rfl, hn160, hs1⟩ a hf
          have hs : St [] W w [.blk b1 24 [.int .i64 p0.Events, .slice A_p0_1 p0.Places.length c_p0_1], .blk b2 27 [.int .i64 p1.Period, .slice A_p1_1 p1.Starts.length c_p1_1], .blk b154 36 [.int .i64 0, .slice none 0 0], .row A157 n158 c159 71 4 ((recs GPlace.cells) r155.Places)] := hs.join hs1
          clear hs1
          have hs0 : St [] W w [.blk b1 24 [.int .i64 p0.Events, .slice A_p0_1 p0.Places.length c_p0_1], .blk b2 27 [.int .i64 p1.Period, .slice A_p1_1 p1.Starts.length c_p1_1]] := hs.sel [0, 1] (by decide)
          refine wpO_nil ⟨Or.inr hs0, ?_⟩
          refine gRun (i := 3) rfl (by kernel_rfl) ?_
          obtain ⟨r161, hc162, hj95⟩ := bind_some hj95
          refine sCall hf rfl rfl rfl rfl (cap := []) rfl rfl en19 (laws_toTimetable_ok F p1 A_p1_1 p1.Starts.length c_p1_1 rfl _ _ hc162 (h_p1_1.at hs)) ?_; clear hf
          rintro _ w ⟨A163, n164, c165, rfl, hn166, hs1⟩ a hf
          have hs : St [] W w [.blk b1 24 [.int .i64 p0.Events, .slice A_p0_1 p0.Places.length c_p0_1], .blk b2 27 [.int .i64 p1.Period, .slice A_p1_1 p1.Starts.length c_p1_1], .blk b154 36 [.int .i64 0, .slice none 0 0], .row A157 n158 c159 71 4 ((recs GPlace.cells) r155.Places), .row A163 n164 c165 2 1 (ints r161.Starts)] := hs.join hs1
          clear hs1
          have hs0 : St [] W w [.blk b1 24 [.int .i64 p0.Events, .slice A_p0_1 p0.Places.length c_p0_1], .blk b2 27 [.int .i64 p1.Period, .slice A_p1_1 p1.Starts.length c_p1_1]] := hs.sel [0, 1] (by decide)
          refine wpO_nil ⟨Or.inr hs0, ?_⟩
          refine gRun (i := 5) rfl (by kernel_rfl) ?_
          obtain ⟨r167, hc168, hj95⟩ := bind_some hj95
          refine sCall hf rfl rfl rfl rfl (cap := []) rfl rfl en54 (spec_ShiftTimetable_ok F r155 A157 n158 c159 hn160 r161 A163 n164 c165 hn166 p2 _ _ hc168 (hs.rd (i := 3) rfl) (hs.rd (i := 4) rfl)) ?_; clear hf
          rintro _ w ⟨A169, n170, c171, rfl, hn172, hs1⟩ a hf
          have hs : St [] W w [.blk b1 24 [.int .i64 p0.Events, .slice A_p0_1 p0.Places.length c_p0_1], .blk b2 27 [.int .i64 p1.Period, .slice A_p1_1 p1.Starts.length c_p1_1], .blk b154 36 [.int .i64 0, .slice none 0 0], .row A157 n158 c159 71 4 ((recs GPlace.cells) r155.Places), .row A163 n164 c165 2 1 (ints r161.Starts), .row A169 n170 c171 2 1 (ints r167.1.Starts)] := hs.join hs1
          clear hs1
          have hs0 : St [] W w [.blk b1 24 [.int .i64 p0.Events, .slice A_p0_1 p0.Places.length c_p0_1], .blk b2 27 [.int .i64 p1.Period, .slice A_p1_1 p1.Starts.length c_p1_1]] := hs.sel [0, 1] (by decide)
          refine wpO_nil ⟨Or.inr hs0, ?_⟩
          refine gY (i := 6) [] rfl (by kernel_rfl) (by kernel_rfl) hf hs0 rfl rfl rfl (Y_move rfl rfl) ?_; clear hf; intro a hf
          refine gY (i := 7) [] rfl (by kernel_rfl) (by kernel_rfl) hf hs0 rfl rfl rfl (Y_extract rfl rfl rfl) ?_; clear hf; intro a hf
          refine gY (i := 8) [] rfl (by kernel_rfl) (by kernel_rfl) hf hs0 rfl rfl rfl (Y_extract rfl rfl rfl) ?_; clear hf; intro a hf
          refine gRun (i := 10) rfl (by kernel_rfl) ?_
          refine sStore (i := 2) (us := [.int .i64 r167.1.Period, .slice A169 n170 c171]) hf hs rfl rfl rfl rfl rfl rfl ti36 rfl rfl rfl (Nat.le_of_ble_eq_true rfl) rfl ?_; clear hs; intro w hs
          have hs : St [] W w [.blk b1 24 [.int .i64 p0.Events, .slice A_p0_1 p0.Places.length c_p0_1], .blk b2 27 [.int .i64 p1.Period, .slice A_p1_1 p1.Starts.length c_p1_1], .blk b154 36 [.int .i64 r167.1.Period, .slice A169 n170 c171], .row A157 n158 c159 71 4 ((recs GPlace.cells) r155.Places), .row A163 n164 c165 2 1 (ints r161.Starts), .row A169 n170 c171 2 1 (ints r167.1.Starts)] := hs
          have hs0 : St [] W w [.blk b1 24 [.int .i64 p0.Events, .slice A_p0_1 p0.Places.length c_p0_1], .blk b2 27 [.int .i64 p1.Period, .slice A_p1_1 p1.Starts.length c_p1_1]] := hs.sel [0, 1] (by decide)
          refine wpO_nil ⟨Or.inr hs0, ?_⟩
          refine gY (i := 11) [] rfl (by kernel_rfl) (by kernel_rfl) hf hs0 rfl rfl rfl (Y_assign rfl rfl) ?_; clear hf; intro a hf
          refine gDone (by kernel_rfl) ?_
          clear hs0
          refine wpL_nil (then_normal ?_)
          exact ⟨r167.1.Period, r167.1.Starts, r167.2, b154, A169, n170, c171, Option.some.inj hj95, hn172, (Fr.pick (Fr.pick (Fr.pick (Fr.pick (Fr.pick hf.none hf rfl) hf rfl) hf rfl) hf rfl) hf rfl), hs.sel [0, 1, 2, 5] (by decide)⟩
      · rintro a w ⟨x87, xs88, x93, b86, A89, n90, c91, hr_, hn92, hf, hs⟩
        subst hr_
        try dsimp only at hm
        refine wpL_seq ?_
        refine wpL_region ?_
        refine sY hf hs rfl rfl rfl (Y_load_blkS rfl rfl (i := 0) rfl ag24 ti24 rfl) ?_; clear hf; intro a hf
        obtain ⟨r173, hc174, hm⟩ := bind_some hm
        refine sCall hf rfl rfl rfl rfl (cap := []) rfl rfl en18 (laws_toEventGraph_ok F p0 A_p0_1 p0.Places.length c_p0_1 rfl _ _ hc174 (h_p0_1.at hs)) ?_; clear hf
        rintro _ w ⟨A175, n176, c177, rfl, hn178, hs1⟩ a hf
        have hs : St [] W w [.blk b1 24 [.int .i64 p0.Events, .slice A_p0_1 p0.Places.length c_p0_1], .blk b2 27 [.int .i64 p1.Period, .slice A_p1_1 p1.Starts.length c_p1_1], .blk b86 36 [.int .i64 x87, .slice A89 n90 c91], .row A89 n90 c91 2 1 (ints xs88), .row A175 n176 c177 71 4 ((recs GPlace.cells) r173.Places)] := hs.join hs1
        clear hs1
        refine sAlloc hf hs rfl rfl rfl rfl ti34 ?_; clear hf hs; intro a w b179 hs hf
        have hs : St [] W w [.blk b1 24 [.int .i64 p0.Events, .slice A_p0_1 p0.Places.length c_p0_1], .blk b2 27 [.int .i64 p1.Period, .slice A_p1_1 p1.Starts.length c_p1_1], .blk b86 36 [.int .i64 x87, .slice A89 n90 c91], .row A89 n90 c91 2 1 (ints xs88), .row A175 n176 c177 71 4 ((recs GPlace.cells) r173.Places), .blk b179 34 [.int .i64 0, .slice none 0 0]] := hs
        refine sStore (i := 5) (us := [.int .i64 r173.Events, .slice A175 n176 c177]) hf hs rfl rfl rfl rfl rfl rfl ti34 rfl rfl rfl (Nat.le_of_ble_eq_true rfl) rfl ?_; clear hs; intro w hs
        have hs : St [] W w [.blk b1 24 [.int .i64 p0.Events, .slice A_p0_1 p0.Places.length c_p0_1], .blk b2 27 [.int .i64 p1.Period, .slice A_p1_1 p1.Starts.length c_p1_1], .blk b86 36 [.int .i64 x87, .slice A89 n90 c91], .row A89 n90 c91 2 1 (ints xs88), .row A175 n176 c177 71 4 ((recs GPlace.cells) r173.Places), .blk b179 34 [.int .i64 r173.Events, .slice A175 n176 c177]] := hs
        refine wpO_nil ?_
        refine wpL_seq ?_
        refine wpL_region ?_
        refine sY hf hs rfl rfl rfl (Y_load_blkS rfl rfl (i := 1) rfl ag27 ti27 rfl) ?_; clear hf; intro a hf
        obtain ⟨r180, hc181, hm⟩ := bind_some hm
        refine sCall hf rfl rfl rfl rfl (cap := []) rfl rfl en19 (laws_toTimetable_ok F p1 A_p1_1 p1.Starts.length c_p1_1 rfl _ _ hc181 (h_p1_1.at hs)) ?_; clear hf
        rintro _ w ⟨A182, n183, c184, rfl, hn185, hs1⟩ a hf
        have hs : St [] W w [.blk b1 24 [.int .i64 p0.Events, .slice A_p0_1 p0.Places.length c_p0_1], .blk b2 27 [.int .i64 p1.Period, .slice A_p1_1 p1.Starts.length c_p1_1], .blk b86 36 [.int .i64 x87, .slice A89 n90 c91], .row A89 n90 c91 2 1 (ints xs88), .row A175 n176 c177 71 4 ((recs GPlace.cells) r173.Places), .blk b179 34 [.int .i64 r173.Events, .slice A175 n176 c177], .row A182 n183 c184 2 1 (ints r180.Starts)] := hs.join hs1
        clear hs1
        refine sAlloc hf hs rfl rfl rfl rfl ti36 ?_; clear hf hs; intro a w b186 hs hf
        have hs : St [] W w [.blk b1 24 [.int .i64 p0.Events, .slice A_p0_1 p0.Places.length c_p0_1], .blk b2 27 [.int .i64 p1.Period, .slice A_p1_1 p1.Starts.length c_p1_1], .blk b86 36 [.int .i64 x87, .slice A89 n90 c91], .row A89 n90 c91 2 1 (ints xs88), .row A175 n176 c177 71 4 ((recs GPlace.cells) r173.Places), .blk b179 34 [.int .i64 r173.Events, .slice A175 n176 c177], .row A182 n183 c184 2 1 (ints r180.Starts), .blk b186 36 [.int .i64 0, .slice none 0 0]] := hs
        refine sStore (i := 7) (us := [.int .i64 r180.Period, .slice A182 n183 c184]) hf hs rfl rfl rfl rfl rfl rfl ti36 rfl rfl rfl (Nat.le_of_ble_eq_true rfl) rfl ?_; clear hs; intro w hs
        have hs : St [] W w [.blk b1 24 [.int .i64 p0.Events, .slice A_p0_1 p0.Places.length c_p0_1], .blk b2 27 [.int .i64 p1.Period, .slice A_p1_1 p1.Starts.length c_p1_1], .blk b86 36 [.int .i64 x87, .slice A89 n90 c91], .row A89 n90 c91 2 1 (ints xs88), .row A175 n176 c177 71 4 ((recs GPlace.cells) r173.Places), .blk b179 34 [.int .i64 r173.Events, .slice A175 n176 c177], .row A182 n183 c184 2 1 (ints r180.Starts), .blk b186 36 [.int .i64 r180.Period, .slice A182 n183 c184]] := hs
        refine wpO_nil ?_
        refine wpL_seq ?_
        refine wpL_region ?_
        refine sY hf hs rfl rfl rfl (Y_load_blkS rfl rfl (i := 5) rfl ag34 ti34 rfl) ?_; clear hf; intro a hf
        refine sY hf hs rfl rfl rfl (Y_load_blkS rfl rfl (i := 7) rfl ag36 ti36 rfl) ?_; clear hf; intro a hf
        refine sY hf hs rfl rfl rfl (Y_move rfl rfl) ?_; clear hf; intro a hf
        obtain ⟨r187, hc188, hm⟩ := bind_some hm
        refine sCall hf rfl rfl rfl rfl (cap := []) rfl rfl en55 (impl_ShiftTimetable_ok F r173 A175 n176 c177 hn178 r180 A182 n183 c184 hn185 p2 _ _ hc188 (hs.rd (i := 4) rfl) (hs.rd (i := 6) rfl)) ?_; clear hf
        rintro _ w ⟨A189, n190, c191, rfl, hn192, hs1⟩ a hf
        have hs : St [] W w [.blk b1 24 [.int .i64 p0.Events, .slice A_p0_1 p0.Places.length c_p0_1], .blk b2 27 [.int .i64 p1.Period, .slice A_p1_1 p1.Starts.length c_p1_1], .blk b86 36 [.int .i64 x87, .slice A89 n90 c91], .row A89 n90 c91 2 1 (ints xs88), .row A175 n176 c177 71 4 ((recs GPlace.cells) r173.Places), .blk b179 34 [.int .i64 r173.Events, .slice A175 n176 c177], .row A182 n183 c184 2 1 (ints r180.Starts), .blk b186 36 [.int .i64 r180.Period, .slice A182 n183 c184], .row A189 n190 c191 2 1 (ints r187.1.Starts)] := hs.join hs1
        clear hs1
        refine sY hf hs rfl rfl rfl (Y_move rfl rfl) ?_; clear hf; intro a hf
        refine sY hf hs rfl rfl rfl (Y_extract rfl rfl rfl) ?_; clear hf; intro a hf
        refine sY hf hs rfl rfl rfl (Y_extract rfl rfl rfl) ?_; clear hf; intro a hf
        refine sAlloc hf hs rfl rfl rfl rfl ti36 ?_; clear hf hs; intro a w b193 hs hf
        have hs : St [] W w [.blk b1 24 [.int .i64 p0.Events, .slice A_p0_1 p0.Places.length c_p0_1], .blk b2 27 [.int .i64 p1.Period, .slice A_p1_1 p1.Starts.length c_p1_1], .blk b86 36 [.int .i64 x87, .slice A89 n90 c91], .row A89 n90 c91 2 1 (ints xs88), .row A175 n176 c177 71 4 ((recs GPlace.cells) r173.Places), .blk b179 34 [.int .i64 r173.Events, .slice A175 n176 c177], .row A182 n183 c184 2 1 (ints r180.Starts), .blk b186 36 [.int .i64 r180.Period, .slice A182 n183 c184], .row A189 n190 c191 2 1 (ints r187.1.Starts), .blk b193 36 [.int .i64 0, .slice none 0 0]] := hs
        refine sStore (i := 9) (us := [.int .i64 r187.1.Period, .slice A189 n190 c191]) hf hs rfl rfl rfl rfl rfl rfl ti36 rfl rfl rfl (Nat.le_of_ble_eq_true rfl) rfl ?_; clear hs; intro w hs
        have hs : St [] W w [.blk b1 24 [.int .i64 p0.Events, .slice A_p0_1 p0.Places.length c_p0_1], .blk b2 27 [.int .i64 p1.Period, .slice A_p1_1 p1.Starts.length c_p1_1], .blk b86 36 [.int .i64 x87, .slice A89 n90 c91], .row A89 n90 c91 2 1 (ints xs88), .row A175 n176 c177 71 4 ((recs GPlace.cells) r173.Places), .blk b179 34 [.int .i64 r173.Events, .slice A175 n176 c177], .row A182 n183 c184 2 1 (ints r180.Starts), .blk b186 36 [.int .i64 r180.Period, .slice A182 n183 c184], .row A189 n190 c191 2 1 (ints r187.1.Starts), .blk b193 36 [.int .i64 r187.1.Period, .slice A189 n190 c191]] := hs
        refine sY hf hs rfl rfl rfl (Y_assign rfl rfl) ?_; clear hf; intro a hf
        refine wpO_nil ?_
        refine wpL_seq ?_
        refine wpL_seq ?_
        obtain ⟨r198, hj199, hm⟩ := bind_some hm
        refine wpL_cut (fun a w => ∃ b197 : Bool, b197 = r198 ∧ Fr a 124 [(2, .int .i64 p2), (3, .pointer (some ⟨b1, 0, none⟩)), (4, .pointer (some ⟨b2, 0, none⟩)), (8, .pointer (some ⟨b86, 0, none⟩)), (9, .int .i64 x93), (10, .pointer (some ⟨b179, 0, none⟩)), (11, .pointer (some ⟨b186, 0, none⟩)), (12, .pointer (some ⟨b193, 0, none⟩)), (13, .int .i64 r187.2), (57, .bool b197)] ∧ St [] W w [.blk b1 24 [.int .i64 p0.Events, .slice A_p0_1 p0.Places.length c_p0_1], .blk b2 27 [.int .i64 p1.Period, .slice A_p1_1 p1.Starts.length c_p1_1], .blk b86 36 [.int .i64 x87, .slice A89 n90 c91], .row A89 n90 c91 2 1 (ints xs88), .blk b179 34 [.int .i64 r173.Events, .slice A175 n176 c177], .row A175 n176 c177 71 4 ((recs GPlace.cells) r173.Places), .blk b186 36 [.int .i64 r180.Period, .slice A182 n183 c184], .row A182 n183 c184 2 1 (ints r180.Starts), .blk b193 36 [.int .i64 r187.1.Period, .slice A189 n190 c191], .row A189 n190 c191 2 1 (ints r187.1.Starts)]) ?_ ?_
        · refine wpL_region ?_
          refine sY hf hs rfl rfl rfl (Y_load_blkS rfl rfl (i := 9) rfl ag36 ti36 rfl) ?_; clear hf; intro a hf
          refine sY hf hs rfl rfl rfl (Y_load_blkS rfl rfl (i := 2) rfl ag36 ti36 rfl) ?_; clear hf; intro a hf
          obtain ⟨r200, hc201, hj199⟩ := bind_some hj199
          refine sCall hf rfl rfl rfl rfl (cap := []) rfl rfl en22 (laws_eqTimetable_ok F (GTimetable.mk r187.1.Period r187.1.Starts) A189 n190 c191 hn192 (GTimetable.mk x87 xs88) A89 n90 c91 hn92 _ _ hc201 (hs.rd (i := 8) rfl) (hs.rd (i := 3) rfl)) ?_; clear hf
          rintro _ w ⟨rfl, hs1⟩ a hf
          have hs : St [] W w [.blk b1 24 [.int .i64 p0.Events, .slice A_p0_1 p0.Places.length c_p0_1], .blk b2 27 [.int .i64 p1.Period, .slice A_p1_1 p1.Starts.length c_p1_1], .blk b86 36 [.int .i64 x87, .slice A89 n90 c91], .row A89 n90 c91 2 1 (ints xs88), .row A175 n176 c177 71 4 ((recs GPlace.cells) r173.Places), .blk b179 34 [.int .i64 r173.Events, .slice A175 n176 c177], .row A182 n183 c184 2 1 (ints r180.Starts), .blk b186 36 [.int .i64 r180.Period, .slice A182 n183 c184], .row A189 n190 c191 2 1 (ints r187.1.Starts), .blk b193 36 [.int .i64 r187.1.Period, .slice A189 n190 c191]] := hs.ext hs1.below
          clear hs1
          refine sY hf hs rfl rfl rfl (Y_not rfl rfl) ?_; clear hf; intro a hf
          refine sY hf hs rfl rfl rfl (Y_move rfl rfl) ?_; clear hf; intro a hf
          refine bsplit (!r200) (fun hb202 => ?_) (fun hb202 => ?_)
          · have hj199 := bif_t hj199 hb202
            refine sNo hf rfl rfl rfl (congrArg (fun b => some (Value.bool b)) hb202) rfl rfl rfl ?_; clear hf; intro a hf
            refine sNo hf rfl rfl rfl (congrArg (fun b => some (Value.bool b)) hb202) rfl rfl rfl ?_; clear hf; intro a hf
            refine sNo hf rfl rfl rfl (congrArg (fun b => some (Value.bool b)) hb202) rfl rfl rfl ?_; clear hf; intro a hf
            refine sY hf hs rfl rfl rfl (Y_pickT rfl (congrArg (fun b => some (Value.bool b)) hb202) rfl) ?_; clear hf; intro a hf
            refine wpO_nil ?_
            refine wpL_nil (then_normal ?_)
            exact ⟨true, Option.some.inj hj199, (Fr.pick (Fr.pick (Fr.pick (Fr.pick (Fr.pick (Fr.pick (Fr.pick (Fr.pick (Fr.pick (Fr.pick hf.none hf rfl) hf rfl) hf rfl) hf rfl) hf rfl) hf rfl) hf rfl) hf rfl) hf rfl) hf rfl), hs.sel [0, 1, 2, 3, 5, 4, 7, 6, 9, 8] (by decide)⟩
          · have hj199 := bif_f hj199 hb202
            refine sYg hf hs rfl rfl rfl (congrArg (fun b => some (Value.bool b)) hb202) rfl rfl rfl (Y_move rfl rfl) ?_; clear hf; intro a hf
            refine sYg hf hs rfl rfl rfl (congrArg (fun b => some (Value.bool b)) hb202) rfl rfl rfl (Y_move rfl rfl) ?_; clear hf; intro a hf
            refine sYg hf hs rfl rfl rfl (congrArg (fun b => some (Value.bool b)) hb202) rfl rfl rfl (Y_neq rfl rfl rfl) ?_; clear hf; intro a hf
            refine sY hf hs rfl rfl rfl (Y_pickF rfl (congrArg (fun b => some (Value.bool b)) hb202) rfl) ?_; clear hf; intro a hf
            refine wpO_nil ?_
            refine wpL_nil (then_normal ?_)
            exact ⟨(r187.2 != x93), Option.some.inj hj199, (Fr.pick (Fr.pick (Fr.pick (Fr.pick (Fr.pick (Fr.pick (Fr.pick (Fr.pick (Fr.pick (Fr.pick hf.none hf rfl) hf rfl) hf rfl) hf rfl) hf rfl) hf rfl) hf rfl) hf rfl) hf rfl) hf rfl), hs.sel [0, 1, 2, 3, 5, 4, 7, 6, 9, 8] (by decide)⟩
        · rintro a w ⟨b197, hr_, hf, hs⟩
          subst hr_
          try dsimp only at hm
          refine wpL_cond hf rfl (fun hb203 => ?_) (fun hb203 => ?_)
          · have hm := bif_t hm hb203
            refine wpL_seq ?_
            refine wpL_region ?_
            refine sY hf hs rfl rfl rfl (Y_assign rfl rfl) ?_; clear hf; intro a hf
            refine wpO_nil ?_
            obtain rfl := Option.some.inj hm
            refine wpL_ret (ret_tmp rfl hf rfl ?_)
            exact ⟨_, rfl, rfl, hs.sel [] (by decide)⟩
          · have hm := bif_f hm hb203
            refine wpL_skip ?_
            refine wpL_seq ?_
            refine wpL_seq ?_
            refine wpL_drawG [.blk b1 24 [.int .i64 p0.Events, .slice A_p0_1 p0.Places.length c_p0_1], .blk b2 27 [.int .i64 p1.Period, .slice A_p1_1 p1.Starts.length c_p1_1], .blk b86 36 [.int .i64 x87, .slice A89 n90 c91], .row A89 n90 c91 2 1 (ints xs88), .blk b179 34 [.int .i64 r173.Events, .slice A175 n176 c177], .row A175 n176 c177 71 4 ((recs GPlace.cells) r173.Places), .blk b186 36 [.int .i64 r180.Period, .slice A182 n183 c184], .row A182 n183 c184 2 1 (ints r180.Starts), .blk b193 36 [.int .i64 r187.1.Period, .slice A189 n190 c191], .row A189 n190 c191 2 1 (ints r187.1.Starts)] 5 (by kernel_rfl) hs ?_; clear hs; intro w hs
            have hs0 : St [] W w [.blk b1 24 [.int .i64 p0.Events, .slice A_p0_1 p0.Places.length c_p0_1], .blk b2 27 [.int .i64 p1.Period, .slice A_p1_1 p1.Starts.length c_p1_1], .blk b86 36 [.int .i64 x87, .slice A89 n90 c91], .row A89 n90 c91 2 1 (ints xs88), .blk b179 34 [.int .i64 r173.Events, .slice A175 n176 c177], .row A175 n176 c177 71 4 ((recs GPlace.cells) r173.Places), .blk b186 36 [.int .i64 r180.Period, .slice A182 n183 c184], .row A182 n183 c184 2 1 (ints r180.Starts), .blk b193 36 [.int .i64 r187.1.Period, .slice A189 n190 c191], .row A189 n190 c191 2 1 (ints r187.1.Starts)] := hs
            refine gY (i := 0) [] rfl (by kernel_rfl) (by kernel_rfl) hf hs0 rfl rfl rfl (Y_load_blkS rfl rfl (i := 4) rfl ag34 ti34 rfl) ?_; clear hf; intro a hf
            refine gY (i := 1) [] rfl (by kernel_rfl) (by kernel_rfl) hf hs0 rfl rfl rfl (Y_load_blkS rfl rfl (i := 0) rfl ag24 ti24 rfl) ?_; clear hf; intro a hf
            refine gRun (i := 2) rfl (by kernel_rfl) ?_
            obtain ⟨r212, hc213, hm⟩ := bind_some hm
            refine sCall hf rfl rfl rfl rfl (cap := []) rfl rfl en18 (laws_toEventGraph_ok F p0 A_p0_1 p0.Places.length c_p0_1 rfl _ _ hc213 (h_p0_1.at hs)) ?_; clear hf
            rintro _ w ⟨A214, n215, c216, rfl, hn217, hs1⟩ a hf
            have hs : St [] W w [.blk b1 24 [.int .i64 p0.Events, .slice A_p0_1 p0.Places.length c_p0_1], .blk b2 27 [.int .i64 p1.Period, .slice A_p1_1 p1.Starts.length c_p1_1], .blk b86 36 [.int .i64 x87, .slice A89 n90 c91], .row A89 n90 c91 2 1 (ints xs88), .blk b179 34 [.int .i64 r173.Events, .slice A175 n176 c177], .row A175 n176 c177 71 4 ((recs GPlace.cells) r173.Places), .blk b186 36 [.int .i64 r180.Period, .slice A182 n183 c184], .row A182 n183 c184 2 1 (ints r180.Starts), .blk b193 36 [.int .i64 r187.1.Period, .slice A189 n190 c191], .row A189 n190 c191 2 1 (ints r187.1.Starts), .row A214 n215 c216 71 4 ((recs GPlace.cells) r212.Places)] := hs.join hs1
            clear hs1
            have hs0 : St [] W w [.blk b1 24 [.int .i64 p0.Events, .slice A_p0_1 p0.Places.length c_p0_1], .blk b2 27 [.int .i64 p1.Period, .slice A_p1_1 p1.Starts.length c_p1_1], .blk b86 36 [.int .i64 x87, .slice A89 n90 c91], .row A89 n90 c91 2 1 (ints xs88), .blk b179 34 [.int .i64 r173.Events, .slice A175 n176 c177], .row A175 n176 c177 71 4 ((recs GPlace.cells) r173.Places), .blk b186 36 [.int .i64 r180.Period, .slice A182 n183 c184], .row A182 n183 c184 2 1 (ints r180.Starts), .blk b193 36 [.int .i64 r187.1.Period, .slice A189 n190 c191], .row A189 n190 c191 2 1 (ints r187.1.Starts)] := hs.sel [0, 1, 2, 3, 4, 5, 6, 7, 8, 9] (by decide)
            refine wpO_nil ⟨Or.inr hs0, ?_⟩
            refine gRun (i := 3) rfl (by kernel_rfl) ?_
            obtain ⟨r218, hc219, hm⟩ := bind_some hm
            refine sCall hf rfl rfl rfl rfl (cap := []) rfl rfl en21 (laws_eqEventGraph_ok F r173 A175 n176 c177 hn178 r212 A214 n215 c216 hn217 _ _ hc219 (hs.rd (i := 5) rfl) (hs.rd (i := 10) rfl)) ?_; clear hf
            rintro _ w ⟨rfl, hs1⟩ a hf
            have hs : St [] W w [.blk b1 24 [.int .i64 p0.Events, .slice A_p0_1 p0.Places.length c_p0_1], .blk b2 27 [.int .i64 p1.Period, .slice A_p1_1 p1.Starts.length c_p1_1], .blk b86 36 [.int .i64 x87, .slice A89 n90 c91], .row A89 n90 c91 2 1 (ints xs88), .blk b179 34 [.int .i64 r173.Events, .slice A175 n176 c177], .row A175 n176 c177 71 4 ((recs GPlace.cells) r173.Places), .blk b186 36 [.int .i64 r180.Period, .slice A182 n183 c184], .row A182 n183 c184 2 1 (ints r180.Starts), .blk b193 36 [.int .i64 r187.1.Period, .slice A189 n190 c191], .row A189 n190 c191 2 1 (ints r187.1.Starts), .row A214 n215 c216 71 4 ((recs GPlace.cells) r212.Places)] := hs.ext hs1.below
            clear hs1
            have hs0 : St [] W w [.blk b1 24 [.int .i64 p0.Events, .slice A_p0_1 p0.Places.length c_p0_1], .blk b2 27 [.int .i64 p1.Period, .slice A_p1_1 p1.Starts.length c_p1_1], .blk b86 36 [.int .i64 x87, .slice A89 n90 c91], .row A89 n90 c91 2 1 (ints xs88), .blk b179 34 [.int .i64 r173.Events, .slice A175 n176 c177], .row A175 n176 c177 71 4 ((recs GPlace.cells) r173.Places), .blk b186 36 [.int .i64 r180.Period, .slice A182 n183 c184], .row A182 n183 c184 2 1 (ints r180.Starts), .blk b193 36 [.int .i64 r187.1.Period, .slice A189 n190 c191], .row A189 n190 c191 2 1 (ints r187.1.Starts)] := hs.sel [0, 1, 2, 3, 4, 5, 6, 7, 8, 9] (by decide)
            refine wpO_nil ⟨Or.inr hs0, ?_⟩
            refine gY (i := 4) [] rfl (by kernel_rfl) (by kernel_rfl) hf hs0 rfl rfl rfl (Y_not rfl rfl) ?_; clear hf; intro a hf
            refine gDone (by kernel_rfl) ?_
            clear hs0
            refine wpL_cond hf rfl (fun hb220 => ?_) (fun hb220 => ?_)
            · have hm := bif_t hm hb220
              refine wpL_seq ?_
              refine wpL_region ?_
              refine sY hf hs rfl rfl rfl (Y_assign rfl rfl) ?_; clear hf; intro a hf
              refine wpO_nil ?_
              obtain rfl := Option.some.inj hm
              refine wpL_ret (ret_tmp rfl hf rfl ?_)
              exact ⟨_, rfl, rfl, hs.sel [] (by decide)⟩
            · have hm := bif_f hm hb220
              refine wpL_skip ?_
              refine wpL_seq ?_
              refine wpL_seq ?_
              refine wpL_drawG [.blk b1 24 [.int .i64 p0.Events, .slice A_p0_1 p0.Places.length c_p0_1], .blk b2 27 [.int .i64 p1.Period, .slice A_p1_1 p1.Starts.length c_p1_1], .blk b86 36 [.int .i64 x87, .slice A89 n90 c91], .row A89 n90 c91 2 1 (ints xs88), .blk b179 34 [.int .i64 r173.Events, .slice A175 n176 c177], .row A175 n176 c177 71 4 ((recs GPlace.cells) r173.Places), .blk b186 36 [.int .i64 r180.Period, .slice A182 n183 c184], .row A182 n183 c184 2 1 (ints r180.Starts), .blk b193 36 [.int .i64 r187.1.Period, .slice A189 n190 c191], .row A189 n190 c191 2 1 (ints r187.1.Starts), .row A214 n215 c216 71 4 ((recs GPlace.cells) r212.Places)] 5 (by kernel_rfl) hs ?_; clear hs; intro w hs
              have hs0 : St [] W w [.blk b1 24 [.int .i64 p0.Events, .slice A_p0_1 p0.Places.length c_p0_1], .blk b2 27 [.int .i64 p1.Period, .slice A_p1_1 p1.Starts.length c_p1_1], .blk b86 36 [.int .i64 x87, .slice A89 n90 c91], .row A89 n90 c91 2 1 (ints xs88), .blk b179 34 [.int .i64 r173.Events, .slice A175 n176 c177], .row A175 n176 c177 71 4 ((recs GPlace.cells) r173.Places), .blk b186 36 [.int .i64 r180.Period, .slice A182 n183 c184], .row A182 n183 c184 2 1 (ints r180.Starts), .blk b193 36 [.int .i64 r187.1.Period, .slice A189 n190 c191], .row A189 n190 c191 2 1 (ints r187.1.Starts), .row A214 n215 c216 71 4 ((recs GPlace.cells) r212.Places)] := hs
              refine gY (i := 0) [] rfl (by kernel_rfl) (by kernel_rfl) hf hs0 rfl rfl rfl (Y_load_blkS rfl rfl (i := 6) rfl ag36 ti36 rfl) ?_; clear hf; intro a hf
              refine gY (i := 1) [] rfl (by kernel_rfl) (by kernel_rfl) hf hs0 rfl rfl rfl (Y_load_blkS rfl rfl (i := 1) rfl ag27 ti27 rfl) ?_; clear hf; intro a hf
              refine gRun (i := 2) rfl (by kernel_rfl) ?_
              obtain ⟨r229, hc230, hm⟩ := bind_some hm
              refine sCall hf rfl rfl rfl rfl (cap := []) rfl rfl en19 (laws_toTimetable_ok F p1 A_p1_1 p1.Starts.length c_p1_1 rfl _ _ hc230 (h_p1_1.at hs)) ?_; clear hf
              rintro _ w ⟨A231, n232, c233, rfl, hn234, hs1⟩ a hf
              have hs : St [] W w [.blk b1 24 [.int .i64 p0.Events, .slice A_p0_1 p0.Places.length c_p0_1], .blk b2 27 [.int .i64 p1.Period, .slice A_p1_1 p1.Starts.length c_p1_1], .blk b86 36 [.int .i64 x87, .slice A89 n90 c91], .row A89 n90 c91 2 1 (ints xs88), .blk b179 34 [.int .i64 r173.Events, .slice A175 n176 c177], .row A175 n176 c177 71 4 ((recs GPlace.cells) r173.Places), .blk b186 36 [.int .i64 r180.Period, .slice A182 n183 c184], .row A182 n183 c184 2 1 (ints r180.Starts), .blk b193 36 [.int .i64 r187.1.Period, .slice A189 n190 c191], .row A189 n190 c191 2 1 (ints r187.1.Starts), .row A214 n215 c216 71 4 ((recs GPlace.cells) r212.Places), .row A231 n232 c233 2 1 (ints r229.Starts)] := hs.join hs1
              clear hs1
              have hs0 : St [] W w [.blk b1 24 [.int .i64 p0.Events, .slice A_p0_1 p0.Places.length c_p0_1], .blk b2 27 [.int .i64 p1.Period, .slice A_p1_1 p1.Starts.length c_p1_1], .blk b86 36 [.int .i64 x87, .slice A89 n90 c91], .row A89 n90 c91 2 1 (ints xs88), .blk b179 34 [.int .i64 r173.Events, .slice A175 n176 c177], .row A175 n176 c177 71 4 ((recs GPlace.cells) r173.Places), .blk b186 36 [.int .i64 r180.Period, .slice A182 n183 c184], .row A182 n183 c184 2 1 (ints r180.Starts), .blk b193 36 [.int .i64 r187.1.Period, .slice A189 n190 c191], .row A189 n190 c191 2 1 (ints r187.1.Starts), .row A214 n215 c216 71 4 ((recs GPlace.cells) r212.Places)] := hs.sel [0, 1, 2, 3, 4, 5, 6, 7, 8, 9, 10] (by decide)
              refine wpO_nil ⟨Or.inr hs0, ?_⟩
              refine gRun (i := 3) rfl (by kernel_rfl) ?_
              obtain ⟨r235, hc236, hm⟩ := bind_some hm
              refine sCall hf rfl rfl rfl rfl (cap := []) rfl rfl en22 (laws_eqTimetable_ok F r180 A182 n183 c184 hn185 r229 A231 n232 c233 hn234 _ _ hc236 (hs.rd (i := 7) rfl) (hs.rd (i := 11) rfl)) ?_; clear hf
              rintro _ w ⟨rfl, hs1⟩ a hf
              have hs : St [] W w [.blk b1 24 [.int .i64 p0.Events, .slice A_p0_1 p0.Places.length c_p0_1], .blk b2 27 [.int .i64 p1.Period, .slice A_p1_1 p1.Starts.length c_p1_1], .blk b86 36 [.int .i64 x87, .slice A89 n90 c91], .row A89 n90 c91 2 1 (ints xs88), .blk b179 34 [.int .i64 r173.Events, .slice A175 n176 c177], .row A175 n176 c177 71 4 ((recs GPlace.cells) r173.Places), .blk b186 36 [.int .i64 r180.Period, .slice A182 n183 c184], .row A182 n183 c184 2 1 (ints r180.Starts), .blk b193 36 [.int .i64 r187.1.Period, .slice A189 n190 c191], .row A189 n190 c191 2 1 (ints r187.1.Starts), .row A214 n215 c216 71 4 ((recs GPlace.cells) r212.Places), .row A231 n232 c233 2 1 (ints r229.Starts)] := hs.ext hs1.below
              clear hs1
              have hs0 : St [] W w [.blk b1 24 [.int .i64 p0.Events, .slice A_p0_1 p0.Places.length c_p0_1], .blk b2 27 [.int .i64 p1.Period, .slice A_p1_1 p1.Starts.length c_p1_1], .blk b86 36 [.int .i64 x87, .slice A89 n90 c91], .row A89 n90 c91 2 1 (ints xs88), .blk b179 34 [.int .i64 r173.Events, .slice A175 n176 c177], .row A175 n176 c177 71 4 ((recs GPlace.cells) r173.Places), .blk b186 36 [.int .i64 r180.Period, .slice A182 n183 c184], .row A182 n183 c184 2 1 (ints r180.Starts), .blk b193 36 [.int .i64 r187.1.Period, .slice A189 n190 c191], .row A189 n190 c191 2 1 (ints r187.1.Starts), .row A214 n215 c216 71 4 ((recs GPlace.cells) r212.Places)] := hs.sel [0, 1, 2, 3, 4, 5, 6, 7, 8, 9, 10] (by decide)
              refine wpO_nil ⟨Or.inr hs0, ?_⟩
              refine gY (i := 4) [] rfl (by kernel_rfl) (by kernel_rfl) hf hs0 rfl rfl rfl (Y_not rfl rfl) ?_; clear hf; intro a hf
              refine gDone (by kernel_rfl) ?_
              clear hs0
              refine wpL_cond hf rfl (fun hb237 => ?_) (fun hb237 => ?_)
              · have hm := bif_t hm hb237
                refine wpL_seq ?_
                refine wpL_region ?_
                refine sY hf hs rfl rfl rfl (Y_assign rfl rfl) ?_; clear hf; intro a hf
                refine wpO_nil ?_
                obtain rfl := Option.some.inj hm
                refine wpL_ret (ret_tmp rfl hf rfl ?_)
                exact ⟨_, rfl, rfl, hs.sel [] (by decide)⟩
              · have hm := bif_f hm hb237
                refine wpL_skip ?_
                refine wpL_seq ?_
                refine wpL_region ?_
                refine sY hf hs rfl rfl rfl (Y_assign rfl rfl) ?_; clear hf; intro a hf
                refine wpO_nil ?_
                refine wpL_seq ?_
                refine wpL_region ?_
                refine sY hf hs rfl rfl rfl (Y_load_blkS rfl rfl (i := 4) rfl ag34 ti34 rfl) ?_; clear hf; intro a hf
                refine sY hf hs rfl rfl rfl (Y_move rfl rfl) ?_; clear hf; intro a hf
                obtain ⟨r238, hc239, hm⟩ := bind_some hm
                refine sCall hf rfl rfl rfl rfl (cap := []) rfl rfl en28 (laws_markEventGraph_ok F r173 A175 n176 c177 hn178 1 _ _ hc239 (hs.res _ _ (show _[5]? = some _ from rfl))) ?_; clear hf
                rintro _ w ⟨rfl, hn240, hs1⟩ a hf
                have hs : St [] W w [.blk b1 24 [.int .i64 p0.Events, .slice A_p0_1 p0.Places.length c_p0_1], .blk b2 27 [.int .i64 p1.Period, .slice A_p1_1 p1.Starts.length c_p1_1], .blk b86 36 [.int .i64 x87, .slice A89 n90 c91], .row A89 n90 c91 2 1 (ints xs88), .blk b179 34 [.int .i64 r173.Events, .slice A175 n176 c177], .row A175 n176 c177 71 4 ((recs GPlace.cells) r238.2), .blk b186 36 [.int .i64 r180.Period, .slice A182 n183 c184], .row A182 n183 c184 2 1 (ints r180.Starts), .blk b193 36 [.int .i64 r187.1.Period, .slice A189 n190 c191], .row A189 n190 c191 2 1 (ints r187.1.Starts), .row A214 n215 c216 71 4 ((recs GPlace.cells) r212.Places), .row A231 n232 c233 2 1 (ints r229.Starts)] := hs.mut (i := 5) rfl (fun b hb => muA_mem hb) hs1
                clear hs1
                refine sY hf hs rfl rfl rfl (Y_assign rfl rfl) ?_; clear hf; intro a hf
                refine wpO_nil ?_
                refine wpL_seq ?_
                refine wpL_region ?_
                refine sY hf hs rfl rfl rfl (Y_load_blkS rfl rfl (i := 6) rfl ag36 ti36 rfl) ?_; clear hf; intro a hf
                refine sY hf hs rfl rfl rfl (Y_move rfl rfl) ?_; clear hf; intro a hf
                obtain ⟨r241, hc242, hm⟩ := bind_some hm
                refine sCall hf rfl rfl rfl rfl (cap := []) rfl rfl en37 (laws_markTimetable_ok F r180 A182 n183 c184 hn185 r238.1 _ _ hc242 (hs.res _ _ (show _[7]? = some _ from rfl))) ?_; clear hf
                rintro _ w ⟨rfl, hn243, hs1⟩ a hf
                have hs : St [] W w [.blk b1 24 [.int .i64 p0.Events, .slice A_p0_1 p0.Places.length c_p0_1], .blk b2 27 [.int .i64 p1.Period, .slice A_p1_1 p1.Starts.length c_p1_1], .blk b86 36 [.int .i64 x87, .slice A89 n90 c91], .row A89 n90 c91 2 1 (ints xs88), .blk b179 34 [.int .i64 r173.Events, .slice A175 n176 c177], .row A175 n176 c177 71 4 ((recs GPlace.cells) r238.2), .blk b186 36 [.int .i64 r180.Period, .slice A182 n183 c184], .row A182 n183 c184 2 1 (ints r241.2), .blk b193 36 [.int .i64 r187.1.Period, .slice A189 n190 c191], .row A189 n190 c191 2 1 (ints r187.1.Starts), .row A214 n215 c216 71 4 ((recs GPlace.cells) r212.Places), .row A231 n232 c233 2 1 (ints r229.Starts)] := hs.mut (i := 7) rfl (fun b hb => muA_mem hb) hs1
                clear hs1
                refine sY hf hs rfl rfl rfl (Y_assign rfl rfl) ?_; clear hf; intro a hf
                refine wpO_nil ?_
                refine wpL_seq ?_
                refine wpL_seq ?_
                obtain ⟨r249, hj250, hm⟩ := bind_some hm
                refine wpL_cut (fun a w => ∃ b248 : Bool, b248 = r249 ∧ Fr a 124 [(2, .int .i64 p2), (3, .pointer (some ⟨b1, 0, none⟩)), (4, .pointer (some ⟨b2, 0, none⟩)), (8, .pointer (some ⟨b86, 0, none⟩)), (9, .int .i64 x93), (12, .pointer (some ⟨b193, 0, none⟩)), (86, .bool b248)] ∧ St [] W w [.blk b1 24 [.int .i64 p0.Events, .slice A_p0_1 p0.Places.length c_p0_1], .blk b2 27 [.int .i64 p1.Period, .slice A_p1_1 p1.Starts.length c_p1_1], .blk b86 36 [.int .i64 x87, .slice A89 n90 c91], .row A89 n90 c91 2 1 (ints xs88), .blk b193 36 [.int .i64 r187.1.Period, .slice A189 n190 c191], .row A189 n190 c191 2 1 (ints r187.1.Starts)]) ?_ ?_
                · refine wpL_region ?_
                  refine sY hf hs rfl rfl rfl (Y_move rfl rfl) ?_; clear hf; intro a hf
                  refine sY hf hs rfl rfl rfl (Y_lss rfl rfl rfl) ?_; clear hf; intro a hf
                  refine sY hf hs rfl rfl rfl (Y_move rfl rfl) ?_; clear hf; intro a hf
                  refine bsplit (decide (r241.1 < 0)) (fun hb251 => ?_) (fun hb251 => ?_)
                  · have hj250 := bif_t hj250 hb251
                    refine sNo hf rfl rfl rfl (congrArg (fun b => some (Value.bool b)) hb251) rfl rfl rfl ?_; clear hf; intro a hf
                    refine sNo hf rfl rfl rfl (congrArg (fun b => some (Value.bool b)) hb251) rfl rfl rfl ?_; clear hf; intro a hf
                    refine sNo hf rfl rfl rfl (congrArg (fun b => some (Value.bool b)) hb251) rfl rfl rfl ?_; clear hf; intro a hf
                    refine sNo hf rfl rfl rfl (congrArg (fun b => some (Value.bool b)) hb251) rfl rfl rfl ?_; clear hf; intro a hf
                    refine sY hf hs rfl rfl rfl (Y_pickT rfl (congrArg (fun b => some (Value.bool b)) hb251) rfl) ?_; clear hf; intro a hf
                    refine sY hf hs rfl rfl rfl (Y_move rfl rfl) ?_; clear hf; intro a hf
                    refine sNo hf rfl rfl rfl rfl rfl rfl rfl ?_; clear hf; intro a hf
                    refine sNo hf rfl rfl rfl rfl rfl rfl rfl ?_; clear hf; intro a hf
                    refine sNo hf rfl rfl rfl rfl rfl rfl rfl ?_; clear hf; intro a hf
                    refine sY hf hs rfl rfl rfl (Y_pickT rfl rfl rfl) ?_; clear hf; intro a hf
                    refine wpO_nil ?_
                    refine wpL_nil (then_normal ?_)
                    exact ⟨true, Option.some.inj hj250, (Fr.pick (Fr.pick (Fr.pick (Fr.pick (Fr.pick (Fr.pick (Fr.pick hf.none hf rfl) hf rfl) hf rfl) hf rfl) hf rfl) hf rfl) hf rfl), hs.sel [0, 1, 2, 3, 8, 9] (by decide)⟩
                  · have hj250 := bif_f hj250 hb251
                    refine sYg hf hs rfl rfl rfl (congrArg (fun b => some (Value.bool b)) hb251) rfl rfl rfl (Y_load_blkS rfl rfl (i := 8) rfl ag36 ti36 rfl) ?_; clear hf; intro a hf
                    refine sYg hf hs rfl rfl rfl (congrArg (fun b => some (Value.bool b)) hb251) rfl rfl rfl (Y_load_blkS rfl rfl (i := 2) rfl ag36 ti36 rfl) ?_; clear hf; intro a hf
                    obtain ⟨r252, hc253, hj250⟩ := bind_some hj250
                    refine sCallg hf rfl rfl rfl (congrArg (fun b => some (Value.bool b)) hb251) rfl rfl rfl rfl (cap := []) rfl rfl en22 (laws_eqTimetable_ok F (GTimetable.mk r187.1.Period r187.1.Starts) A189 n190 c191 hn192 (GTimetable.mk x87 xs88) A89 n90 c91 hn92 _ _ hc253 (hs.rd (i := 9) rfl) (hs.rd (i := 3) rfl)) ?_; clear hf
                    rintro _ w ⟨rfl, hs1⟩ a hf
                    have hs : St [] W w [.blk b1 24 [.int .i64 p0.Events, .slice A_p0_1 p0.Places.length c_p0_1], .blk b2 27 [.int .i64 p1.Period, .slice A_p1_1 p1.Starts.length c_p1_1], .blk b86 36 [.int .i64 x87, .slice A89 n90 c91], .row A89 n90 c91 2 1 (ints xs88), .blk b179 34 [.int .i64 r173.Events, .slice A175 n176 c177], .row A175 n176 c177 71 4 ((recs GPlace.cells) r238.2), .blk b186 36 [.int .i64 r180.Period, .slice A182 n183 c184], .row A182 n183 c184 2 1 (ints r241.2), .blk b193 36 [.int .i64 r187.1.Period, .slice A189 n190 c191], .row A189 n190 c191 2 1 (ints r187.1.Starts), .row A214 n215 c216 71 4 ((recs GPlace.cells) r212.Places), .row A231 n232 c233 2 1 (ints r229.Starts)] := hs.ext hs1.below
                    clear hs1
                    refine sYg hf hs rfl rfl rfl (congrArg (fun b => some (Value.bool b)) hb251) rfl rfl rfl (Y_not rfl rfl) ?_; clear hf; intro a hf
                    refine sY hf hs rfl rfl rfl (Y_pickF rfl (congrArg (fun b => some (Value.bool b)) hb251) rfl) ?_; clear hf; intro a hf
                    refine sY hf hs rfl rfl rfl (Y_move rfl rfl) ?_; clear hf; intro a hf
                    refine bsplit (!r252) (fun hb254 => ?_) (fun hb254 => ?_)
                    · have hj250 := bif_t hj250 hb254
                      refine sNo hf rfl rfl rfl (congrArg (fun b => some (Value.bool b)) hb254) rfl rfl rfl ?_; clear hf; intro a hf
                      refine sNo hf rfl rfl rfl (congrArg (fun b => some (Value.bool b)) hb254) rfl rfl rfl ?_; clear hf; intro a hf
                      refine sNo hf rfl rfl rfl (congrArg (fun b => some (Value.bool b)) hb254) rfl rfl rfl ?_; clear hf; intro a hf
                      refine sY hf hs rfl rfl rfl (Y_pickT rfl (congrArg (fun b => some (Value.bool b)) hb254) rfl) ?_; clear hf; intro a hf
                      refine wpO_nil ?_
                      refine wpL_nil (then_normal ?_)
                      exact ⟨true, Option.some.inj hj250, (Fr.pick (Fr.pick (Fr.pick (Fr.pick (Fr.pick (Fr.pick (Fr.pick hf.none hf rfl) hf rfl) hf rfl) hf rfl) hf rfl) hf rfl) hf rfl), hs.sel [0, 1, 2, 3, 8, 9] (by decide)⟩
                    · have hj250 := bif_f hj250 hb254
                      refine sYg hf hs rfl rfl rfl (congrArg (fun b => some (Value.bool b)) hb254) rfl rfl rfl (Y_move rfl rfl) ?_; clear hf; intro a hf
                      refine sYg hf hs rfl rfl rfl (congrArg (fun b => some (Value.bool b)) hb254) rfl rfl rfl (Y_move rfl rfl) ?_; clear hf; intro a hf
                      refine sYg hf hs rfl rfl rfl (congrArg (fun b => some (Value.bool b)) hb254) rfl rfl rfl (Y_neq rfl rfl rfl) ?_; clear hf; intro a hf
                      refine sY hf hs rfl rfl rfl (Y_pickF rfl (congrArg (fun b => some (Value.bool b)) hb254) rfl) ?_; clear hf; intro a hf
                      refine wpO_nil ?_
                      refine wpL_nil (then_normal ?_)
                      exact ⟨(r187.2 != x93), Option.some.inj hj250, (Fr.pick (Fr.pick (Fr.pick (Fr.pick (Fr.pick (Fr.pick (Fr.pick hf.none hf rfl) hf rfl) hf rfl) hf rfl) hf rfl) hf rfl) hf rfl), hs.sel [0, 1, 2, 3, 8, 9] (by decide)⟩
                · rintro a w ⟨b248, hr_, hf, hs⟩
                  subst hr_
                  try dsimp only at hm
                  refine wpL_cond hf rfl (fun hb255 => ?_) (fun hb255 => ?_)
                  · have hm := bif_t hm hb255
                    refine wpL_seq ?_
                    refine wpL_region ?_
                    refine sY hf hs rfl rfl rfl (Y_assign rfl rfl) ?_; clear hf; intro a hf
                    refine wpO_nil ?_
                    obtain rfl := Option.some.inj hm
                    refine wpL_ret (ret_tmp rfl hf rfl ?_)
                    exact ⟨_, rfl, rfl, hs.sel [] (by decide)⟩
                  · have hm := bif_f hm hb255
                    refine wpL_skip ?_
                    refine wpL_seq ?_
                    refine wpL_region ?_
                    refine sY hf hs rfl rfl rfl (Y_assign rfl rfl) ?_; clear hf; intro a hf
                    refine wpO_nil ?_
                    refine wpL_seq ?_
                    refine wpL_region ?_
                    refine sY hf hs rfl rfl rfl (Y_load_blkS rfl rfl (i := 4) rfl ag36 ti36 rfl) ?_; clear hf; intro a hf
                    refine sY hf hs rfl rfl rfl (Y_move rfl rfl) ?_; clear hf; intro a hf
                    obtain ⟨r256, hc257, hm⟩ := bind_some hm
                    refine sCall hf rfl rfl rfl rfl (cap := []) rfl rfl en37 (laws_markTimetable_ok F (GTimetable.mk r187.1.Period r187.1.Starts) A189 n190 c191 hn192 1 _ _ hc257 (hs.res _ _ (show _[5]? = some _ from rfl))) ?_; clear hf
                    rintro _ w ⟨rfl, hn258, hs1⟩ a hf
                    have hs : St [] W w [.blk b1 24 [.int .i64 p0.Events, .slice A_p0_1 p0.Places.length c_p0_1], .blk b2 27 [.int .i64 p1.Period, .slice A_p1_1 p1.Starts.length c_p1_1], .blk b86 36 [.int .i64 x87, .slice A89 n90 c91], .row A89 n90 c91 2 1 (ints xs88), .blk b193 36 [.int .i64 r187.1.Period, .slice A189 n190 c191], .row A189 n190 c191 2 1 (ints r256.2)] := hs.mut (i := 5) rfl (fun b hb => muA_mem hb) hs1
                    clear hs1
                    refine sY hf hs rfl rfl rfl (Y_assign rfl rfl) ?_; clear hf; intro a hf
                    refine wpO_nil ?_
                    refine wpL_seq ?_
                    refine wpL_region ?_
                    refine sY hf hs rfl rfl rfl (Y_assign rfl rfl) ?_; clear hf; intro a hf
                    refine wpO_nil ?_
                    refine wpL_seq ?_
                    refine wpL_region ?_
                    refine sY hf hs rfl rfl rfl (Y_load_blkS rfl rfl (i := 4) rfl ag36 ti36 rfl) ?_; clear hf; intro a hf
                    refine sY hf hs rfl rfl rfl (Y_move rfl rfl) ?_; clear hf; intro a hf
                    obtain ⟨r259, hc260, hm⟩ := bind_some hm
                    refine sCall hf rfl rfl rfl rfl (cap := []) rfl rfl en56 (laws_heldTimetable_ok F (GTimetable.mk r187.1.Period r256.2) A189 n190 c191 hn258 1 _ _ hc260 (hs.rd (i := 5) rfl)) ?_; clear hf
                    rintro _ w ⟨rfl, hs1⟩ a hf
                    have hs : St [] W w [.blk b1 24 [.int .i64 p0.Events, .slice A_p0_1 p0.Places.length c_p0_1], .blk b2 27 [.int .i64 p1.Period, .slice A_p1_1 p1.Starts.length c_p1_1], .blk b86 36 [.int .i64 x87, .slice A89 n90 c91], .row A89 n90 c91 2 1 (ints xs88), .blk b193 36 [.int .i64 r187.1.Period, .slice A189 n190 c191], .row A189 n190 c191 2 1 (ints r256.2)] := hs.ext hs1.below
                    clear hs1
                    refine sY hf hs rfl rfl rfl (Y_assign rfl rfl) ?_; clear hf; intro a hf
                    refine wpO_nil ?_
                    refine wpL_seq ?_
                    refine wpL_seq ?_
                    refine wpL_region ?_
                    refine sY hf hs rfl rfl rfl (Y_move rfl rfl) ?_; clear hf; intro a hf
                    refine sY hf hs rfl rfl rfl (Y_lss rfl rfl rfl) ?_; clear hf; intro a hf
                    refine wpO_nil ?_
                    refine wpL_cond hf rfl (fun hb261 => ?_) (fun hb261 => ?_)
                    · have hm := bif_t hm hb261
                      refine wpL_seq ?_
                      refine wpL_region ?_
                      refine sY hf hs rfl rfl rfl (Y_assign rfl rfl) ?_; clear hf; intro a hf
                      refine wpO_nil ?_
                      obtain rfl := Option.some.inj hm
                      refine wpL_ret (ret_tmp rfl hf rfl ?_)
                      exact ⟨_, rfl, rfl, hs.sel [] (by decide)⟩
                    · have hm := bif_f hm hb261
                      refine wpL_skip ?_
                      refine wpL_seq ?_
                      refine wpL_seq ?_
                      refine wpL_region ?_
                      refine sY hf hs rfl rfl rfl (Y_move rfl rfl) ?_; clear hf; intro a hf
                      refine sY hf hs rfl rfl rfl (Y_move rfl rfl) ?_; clear hf; intro a hf
                      refine sY hf hs rfl rfl rfl (Y_neq rfl rfl rfl) ?_; clear hf; intro a hf
                      refine wpO_nil ?_
                      refine wpL_cond hf rfl (fun hb262 => ?_) (fun hb262 => ?_)
                      · have hm := bif_t hm hb262
                        refine wpL_seq ?_
                        refine wpL_region ?_
                        refine sY hf hs rfl rfl rfl (Y_assign rfl rfl) ?_; clear hf; intro a hf
                        refine wpO_nil ?_
                        obtain rfl := Option.some.inj hm
                        refine wpL_ret (ret_tmp rfl hf rfl ?_)
                        exact ⟨_, rfl, rfl, hs.sel [] (by decide)⟩
                      · have hm := bif_f hm hb262
                        refine wpL_skip ?_
                        refine wpL_seq ?_
                        obtain ⟨r348, hj349, hm⟩ := bind_some hm
                        refine wpL_cut (fun a w => ∃ x341 : Int, ∃ xs342 : List Int, ∃ x347 : Int, ∃ b340, ∃ A343, ∃ n344, ∃ c345, (x341, xs342, x347) = r348 ∧ n344 = xs342.length ∧ Fr a 124 [(8, .pointer (some ⟨b86, 0, none⟩)), (9, .int .i64 x93), (12, .pointer (some ⟨b193, 0, none⟩)), (15, .int .i64 r256.1), (17, .pointer (some ⟨b340, 0, none⟩)), (18, .int .i64 x347)] ∧ St [] W w [.blk b86 36 [.int .i64 x87, .slice A89 n90 c91], .row A89 n90 c91 2 1 (ints xs88), .blk b193 36 [.int .i64 r187.1.Period, .slice A189 n190 c191], .row A189 n190 c191 2 1 (ints r256.2), .blk b340 36 [.int .i64 x341, .slice A343 n344 c345], .row A343 n344 c345 2 1 (ints xs342)]) ?_ ?_
                        · refine wpL_drawG [.blk b1 24 [.int .i64 p0.Events, .slice A_p0_1 p0.Places.length c_p0_1], .blk b2 27 [.int .i64 p1.Period, .slice A_p1_1 p1.Starts.length c_p1_1], .blk b86 36 [.int .i64 x87, .slice A89 n90 c91], .row A89 n90 c91 2 1 (ints xs88), .blk b193 36 [.int .i64 r187.1.Period, .slice A189 n190 c191], .row A189 n190 c191 2 1 (ints r256.2)] 12 (by kernel_rfl) hs ?_; clear hs; intro w hs
                          have hs0 : St [] W w [.blk b1 24 [.int .i64 p0.Events, .slice A_p0_1 p0.Places.length c_p0_1], .blk b2 27 [.int .i64 p1.Period, .slice A_p1_1 p1.Starts.length c_p1_1], .blk b86 36 [.int .i64 x87, .slice A89 n90 c91], .row A89 n90 c91 2 1 (ints xs88), .blk b193 36 [.int .i64 r187.1.Period, .slice A189 n190 c191], .row A189 n190 c191 2 1 (ints r256.2)] := hs
                          refine gY (i := 0) [] rfl (by kernel_rfl) (by kernel_rfl) hf hs0 rfl rfl rfl (Y_load_blkS rfl rfl (i := 0) rfl ag24 ti24 rfl) ?_; clear hf; intro a hf
                          refine gY (i := 2) [] rfl (by kernel_rfl) (by kernel_rfl) hf hs0 rfl rfl rfl (Y_load_blkS rfl rfl (i := 1) rfl ag27 ti27 rfl) ?_; clear hf; intro a hf
                          refine gY (i := 4) [] rfl (by kernel_rfl) (by kernel_rfl) hf hs0 rfl rfl rfl (Y_move rfl rfl) ?_; clear hf; intro a hf
                          refine gRun2 (i := 1) (j := 9) rfl rfl (by kernel_rfl) ?_ ?_
                          · obtain ⟨r369, hc370, hj349⟩ := bind_some hj349
                            refine sCall hf rfl rfl rfl rfl (cap := []) rfl rfl en18 (laws_toEventGraph_ok F p0 A_p0_1 p0.Places.length c_p0_1 rfl _ _ hc370 (h_p0_1.at hs)) ?_; clear hf
                            rintro _ w ⟨A371, n372, c373, rfl, hn374, hs1⟩ a hf
                            have hs : St [] W w [.blk b1 24 [.int .i64 p0.Events, .slice A_p0_1 p0.Places.length c_p0_1], .blk b2 27 [.int .i64 p1.Period, .slice A_p1_1 p1.Starts.length c_p1_1], .blk b86 36 [.int .i64 x87, .slice A89 n90 c91], .row A89 n90 c91 2 1 (ints xs88), .blk b193 36 [.int .i64 r187.1.Period, .slice A189 n190 c191], .row A189 n190 c191 2 1 (ints r256.2), .row A371 n372 c373 71 4 ((recs GPlace.cells) r369.Places)] := hs.join hs1
                            clear hs1
                            have hs0 : St [] W w [.blk b1 24 [.int .i64 p0.Events, .slice A_p0_1 p0.Places.length c_p0_1], .blk b2 27 [.int .i64 p1.Period, .slice A_p1_1 p1.Starts.length c_p1_1], .blk b86 36 [.int .i64 x87, .slice A89 n90 c91], .row A89 n90 c91 2 1 (ints xs88), .blk b193 36 [.int .i64 r187.1.Period, .slice A189 n190 c191], .row A189 n190 c191 2 1 (ints r256.2)] := hs.sel [0, 1, 2, 3, 4, 5] (by decide)
                            refine wpO_nil ⟨Or.inr hs0, ?_⟩
                            refine gRun2 (i := 3) (j := 9) rfl rfl (by kernel_rfl) ?_ ?_
                            · obtain ⟨r375, hc376, hj349⟩ := bind_some hj349
                              refine sCall hf rfl rfl rfl rfl (cap := []) rfl rfl en19 (laws_toTimetable_ok F p1 A_p1_1 p1.Starts.length c_p1_1 rfl _ _ hc376 (h_p1_1.at hs)) ?_; clear hf
                              rintro _ w ⟨A377, n378, c379, rfl, hn380, hs1⟩ a hf
                              have hs : St [] W w [.blk b1 24 [.int .i64 p0.Events, .slice A_p0_1 p0.Places.length c_p0_1], .blk b2 27 [.int .i64 p1.Period, .slice A_p1_1 p1.Starts.length c_p1_1], .blk b86 36 [.int .i64 x87, .slice A89 n90 c91], .row A89 n90 c91 2 1 (ints xs88), .blk b193 36 [.int .i64 r187.1.Period, .slice A189 n190 c191], .row A189 n190 c191 2 1 (ints r256.2), .row A371 n372 c373 71 4 ((recs GPlace.cells) r369.Places), .row A377 n378 c379 2 1 (ints r375.Starts)] := hs.join hs1
                              clear hs1
                              have hs0 : St [] W w [.blk b1 24 [.int .i64 p0.Events, .slice A_p0_1 p0.Places.length c_p0_1], .blk b2 27 [.int .i64 p1.Period, .slice A_p1_1 p1.Starts.length c_p1_1], .blk b86 36 [.int .i64 x87, .slice A89 n90 c91], .row A89 n90 c91 2 1 (ints xs88), .blk b193 36 [.int .i64 r187.1.Period, .slice A189 n190 c191], .row A189 n190 c191 2 1 (ints r256.2)] := hs.sel [0, 1, 2, 3, 4, 5] (by decide)
                              refine wpO_nil ⟨Or.inr hs0, ?_⟩
                              refine gRun2 (i := 5) (j := 9) rfl rfl (by kernel_rfl) ?_ ?_
                              · obtain ⟨r381, hc382, hj349⟩ := bind_some hj349
                                refine sCall hf rfl rfl rfl rfl (cap := []) rfl rfl en55 (impl_ShiftTimetable_ok F r369 A371 n372 c373 hn374 r375 A377 n378 c379 hn380 p2 _ _ hc382 (hs.rd (i := 6) rfl) (hs.rd (i := 7) rfl)) ?_; clear hf
                                rintro _ w ⟨A383, n384, c385, rfl, hn386, hs1⟩ a hf
                                have hs : St [] W w [.blk b1 24 [.int .i64 p0.Events, .slice A_p0_1 p0.Places.length c_p0_1], .blk b2 27 [.int .i64 p1.Period, .slice A_p1_1 p1.Starts.length c_p1_1], .blk b86 36 [.int .i64 x87, .slice A89 n90 c91], .row A89 n90 c91 2 1 (ints xs88), .blk b193 36 [.int .i64 r187.1.Period, .slice A189 n190 c191], .row A189 n190 c191 2 1 (ints r256.2), .row A371 n372 c373 71 4 ((recs GPlace.cells) r369.Places), .row A377 n378 c379 2 1 (ints r375.Starts), .row A383 n384 c385 2 1 (ints r381.1.Starts)] := hs.join hs1
                                clear hs1
                                have hs0 : St [] W w [.blk b1 24 [.int .i64 p0.Events, .slice A_p0_1 p0.Places.length c_p0_1], .blk b2 27 [.int .i64 p1.Period, .slice A_p1_1 p1.Starts.length c_p1_1], .blk b86 36 [.int .i64 x87, .slice A89 n90 c91], .row A89 n90 c91 2 1 (ints xs88), .blk b193 36 [.int .i64 r187.1.Period, .slice A189 n190 c191], .row A189 n190 c191 2 1 (ints r256.2)] := hs.sel [0, 1, 2, 3, 4, 5] (by decide)
                                refine wpO_nil ⟨Or.inr hs0, ?_⟩
                                refine gY (i := 6) [] rfl (by kernel_rfl) (by kernel_rfl) hf hs0 rfl rfl rfl (Y_move rfl rfl) ?_; clear hf; intro a hf
                                refine gY (i := 7) [] rfl (by kernel_rfl) (by kernel_rfl) hf hs0 rfl rfl rfl (Y_extract rfl rfl rfl) ?_; clear hf; intro a hf
                                refine gY (i := 8) [] rfl (by kernel_rfl) (by kernel_rfl) hf hs0 rfl rfl rfl (Y_extract rfl rfl rfl) ?_; clear hf; intro a hf
                                refine gRun (i := 9) rfl (by kernel_rfl) ?_
                                refine sAlloc hf hs rfl rfl rfl rfl ti36 ?_; clear hf hs; intro a w b387 hs hf
                                have hs : St [] W w [.blk b1 24 [.int .i64 p0.Events, .slice A_p0_1 p0.Places.length c_p0_1], .blk b2 27 [.int .i64 p1.Period, .slice A_p1_1 p1.Starts.length c_p1_1], .blk b86 36 [.int .i64 x87, .slice A89 n90 c91], .row A89 n90 c91 2 1 (ints xs88), .blk b193 36 [.int .i64 r187.1.Period, .slice A189 n190 c191], .row A189 n190 c191 2 1 (ints r256.2), .row A371 n372 c373 71 4 ((recs GPlace.cells) r369.Places), .row A377 n378 c379 2 1 (ints r375.Starts), .row A383 n384 c385 2 1 (ints r381.1.Starts), .blk b387 36 [.int .i64 0, .slice none 0 0]] := hs
                                have hs0 : St [] W w [.blk b1 24 [.int .i64 p0.Events, .slice A_p0_1 p0.Places.length c_p0_1], .blk b2 27 [.int .i64 p1.Period, .slice A_p1_1 p1.Starts.length c_p1_1], .blk b86 36 [.int .i64 x87, .slice A89 n90 c91], .row A89 n90 c91 2 1 (ints xs88), .blk b193 36 [.int .i64 r187.1.Period, .slice A189 n190 c191], .row A189 n190 c191 2 1 (ints r256.2)] := hs.sel [0, 1, 2, 3, 4, 5] (by decide)
                                refine wpO_nil ⟨Or.inr hs0, ?_⟩
                                refine gRun (i := 10) rfl (by kernel_rfl) ?_
                                refine sStore (i := 9) (us := [.int .i64 r381.1.Period, .slice A383 n384 c385]) hf hs rfl rfl rfl rfl rfl rfl ti36 rfl rfl rfl (Nat.le_of_ble_eq_true rfl) rfl ?_; clear hs; intro w hs
                                have hs : St [] W w [.blk b1 24 [.int .i64 p0.Events, .slice A_p0_1 p0.Places.length c_p0_1], .blk b2 27 [.int .i64 p1.Period, .slice A_p1_1 p1.Starts.length c_p1_1], .blk b86 36 [.int .i64 x87, .slice A89 n90 c91], .row A89 n90 c91 2 1 (ints xs88), .blk b193 36 [.int .i64 r187.1.Period, .slice A189 n190 c191], .row A189 n190 c191 2 1 (ints r256.2), .row A371 n372 c373 71 4 ((recs GPlace.cells) r369.Places), .row A377 n378 c379 2 1 (ints r375.Starts), .row A383 n384 c385 2 1 (ints r381.1.Starts), .blk b387 36 [.int .i64 r381.1.Period, .slice A383 n384 c385]] := hs
                                have hs0 : St [] W w [.blk b1 24 [.int .i64 p0.Events, .slice A_p0_1 p0.Places.length c_p0_1], .blk b2 27 [.int .i64 p1.Period, .slice A_p1_1 p1.Starts.length c_p1_1], .blk b86 36 [.int .i64 x87, .slice A89 n90 c91], .row A89 n90 c91 2 1 (ints xs88), .blk b193 36 [.int .i64 r187.1.Period, .slice A189 n190 c191], .row A189 n190 c191 2 1 (ints r256.2)] := hs.sel [0, 1, 2, 3, 4, 5] (by decide)
                                refine wpO_nil ⟨Or.inr hs0, ?_⟩
                                refine gY (i := 11) [] rfl (by kernel_rfl) (by kernel_rfl) hf hs0 rfl rfl rfl (Y_assign rfl rfl) ?_; clear hf; intro a hf
                                refine gDone (by kernel_rfl) ?_
                                clear hs0
                                refine wpL_nil (then_normal ?_)
                                exact ⟨r381.1.Period, r381.1.Starts, r381.2, b387, A383, n384, c385, Option.some.inj hj349, hn386, (Fr.pick (Fr.pick (Fr.pick (Fr.pick (Fr.pick (Fr.pick hf.none hf rfl) hf rfl) hf rfl) hf rfl) hf rfl) hf rfl), hs.sel [2, 3, 4, 5, 9, 8] (by decide)⟩
                              · refine sAlloc hf hs rfl rfl rfl rfl ti36 ?_; clear hf hs; intro a w b388 hs hf
                                have hs : St [] W w [.blk b1 24 [.int .i64 p0.Events, .slice A_p0_1 p0.Places.length c_p0_1], .blk b2 27 [.int .i64 p1.Period, .slice A_p1_1 p1.Starts.length c_p1_1], .blk b86 36 [.int .i64 x87, .slice A89 n90 c91], .row A89 n90 c91 2 1 (ints xs88), .blk b193 36 [.int .i64 r187.1.Period, .slice A189 n190 c191], .row A189 n190 c191 2 1 (ints r256.2), .row A371 n372 c373 71 4 ((recs GPlace.cells) r369.Places), .row A377 n378 c379 2 1 (ints r375.Starts), .blk b388 36 [.int .i64 0, .slice none 0 0]] := hs
                                have hs0 : St [] W w [.blk b1 24 [.int .i64 p0.Events, .slice A_p0_1 p0.Places.length c_p0_1], .blk b2 27 [.int .i64 p1.Period, .slice A_p1_1 p1.Starts.length c_p1_1], .blk b86 36 [.int .i64 x87, .slice A89 n90 c91], .row A89 n90 c91 2 1 (ints xs88), .blk b193 36 [.int .i64 r187.1.Period, .slice A189 n190 c191], .row A189 n190 c191 2 1 (ints r256.2)] := hs.sel [0, 1, 2, 3, 4, 5] (by decide)
                                refine wpO_nil ⟨Or.inr hs0, ?_⟩
                                refine gRun (i := 5) rfl (by kernel_rfl) ?_
                                obtain ⟨r389, hc390, hj349⟩ := bind_some hj349
                                refine sCall hf rfl rfl rfl rfl (cap := []) rfl rfl en55 (impl_ShiftTimetable_ok F r369 A371 n372 c373 hn374 r375 A377 n378 c379 hn380 p2 _ _ hc390 (hs.rd (i := 6) rfl) (hs.rd (i := 7) rfl)) ?_; clear hf
                                rintro _ w ⟨A391, n392, c393, rfl, hn394, hs1⟩ a hf
                                have hs : St [] W w [.blk b1 24 [.int .i64 p0.Events, .slice A_p0_1 p0.Places.length c_p0_1], .blk b2 27 [.int .i64 p1.Period, .slice A_p1_1 p1.Starts.length c_p1_1], .blk b86 36 [.int .i64 x87, .slice A89 n90 c91], .row A89 n90 c91 2 1 (ints xs88), .blk b193 36 [.int .i64 r187.1.Period, .slice A189 n190 c191], .row A189 n190 c191 2 1 (ints r256.2), .row A371 n372 c373 71 4 ((recs GPlace.cells) r369.Places), .row A377 n378 c379 2 1 (ints r375.Starts), .blk b388 36 [.int .i64 0, .slice none 0 0], .row A391 n392 c393 2 1 (ints r389.1.Starts)] := hs.join hs1
                                clear hs1
                                have hs0 : St [] W w [.blk b1 24 [.int .i64 p0.Events, .slice A_p0_1 p0.Places.length c_p0_1], .blk b2 27 [.int .i64 p1.Period, .slice A_p1_1 p1.Starts.length c_p1_1], .blk b86 36 [.int .i64 x87, .slice A89 n90 c91], .row A89 n90 c91 2 1 (ints xs88), .blk b193 36 [.int .i64 r187.1.Period, .slice A189 n190 c191], .row A189 n190 c191 2 1 (ints r256.2)] := hs.sel [0, 1, 2, 3, 4, 5] (by decide)
                                refine wpO_nil ⟨Or.inr hs0, ?_⟩
                                refine gY (i := 6) [] rfl (by kernel_rfl) (by kernel_rfl) hf hs0 rfl rfl rfl (Y_move rfl rfl) ?_; clear hf; intro a hf
                                refine gY (i := 7) [] rfl (by kernel_rfl) (by kernel_rfl) hf hs0 rfl rfl rfl (Y_extract rfl rfl rfl) ?_; clear hf; intro a hf
                                refine gY (i := 8) [] rfl (by kernel_rfl) (by kernel_rfl) hf hs0 rfl rfl rfl (Y_extract rfl rfl rfl) ?_; clear hf; intro a hf
                                refine gRun (i := 10) rfl (by kernel_rfl) ?_
                                refine sStore (i := 8) (us := [.int .i64 r389.1.Period, .slice A391 n392 c393]) hf hs rfl rfl rfl rfl rfl rfl ti36 rfl rfl rfl (Nat.le_of_ble_eq_true rfl) rfl ?_; clear hs; intro w hs
                                have hs : St [] W w [.blk b1 24 [.int .i64 p0.Events, .slice A_p0_1 p0.Places.length c_p0_1], .blk b2 27 [.int .i64 p1.Period, .slice A_p1_1 p1.Starts.length c_p1_1], .blk b86 36 [.int .i64 x87, .slice A89 n90 c91], .row A89 n90 c91 2 1 (ints xs88), .blk b193 36 [.int .i64 r187.1.Period, .slice A189 n190 c191], .row A189 n190 c191 2 1 (ints r256.2), .row A371 n372 c373 71 4 ((recs GPlace.cells) r369.Places), .row A377 n378 c379 2 1 (ints r375.Starts), .blk b388 36 [.int .i64 r389.1.Period, .slice A391 n392 c393], .row A391 n392 c393 2 1 (ints r389.1.Starts)] := hs
                                have hs0 : St [] W w [.blk b1 24 [.int .i64 p0.Events, .slice A_p0_1 p0.Places.length c_p0_1], .blk b2 27 [.int .i64 p1.Period, .slice A_p1_1 p1.Starts.length c_p1_1], .blk b86 36 [.int .i64 x87, .slice A89 n90 c91], .row A89 n90 c91 2 1 (ints xs88), .blk b193 36 [.int .i64 r187.1.Period, .slice A189 n190 c191], .row A189 n190 c191 2 1 (ints r256.2)] := hs.sel [0, 1, 2, 3, 4, 5] (by decide)
                                refine wpO_nil ⟨Or.inr hs0, ?_⟩
                                refine gY (i := 11) [] rfl (by kernel_rfl) (by kernel_rfl) hf hs0 rfl rfl rfl (Y_assign rfl rfl) ?_; clear hf; intro a hf
                                refine gDone (by kernel_rfl) ?_
                                clear hs0
                                refine wpL_nil (then_normal ?_)
                                exact ⟨r389.1.Period, r389.1.Starts, r389.2, b388, A391, n392, c393, Option.some.inj hj349, hn394, (Fr.pick (Fr.pick (Fr.pick (Fr.pick (Fr.pick (Fr.pick hf.none hf rfl) hf rfl) hf rfl) hf rfl) hf rfl) hf rfl), hs.sel [2, 3, 4, 5, 8, 9] (by decide)⟩
                            · refine sAlloc hf hs rfl rfl rfl rfl ti36 ?_; clear hf hs; intro a w b395 hs hf
                              have hs : St [] W w [.blk b1 24 [.int .i64 p0.Events, .slice A_p0_1 p0.Places.length c_p0_1], .blk b2 27 [.int .i64 p1.Period, .slice A_p1_1 p1.Starts.length c_p1_1], .blk b86 36 [.int .i64 x87, .slice A89 n90 c91], .row A89 n90 c91 2 1 (ints xs88), .blk b193 36 [.int .i64 r187.1.Period, .slice A189 n190 c191], .row A189 n190 c191 2 1 (ints r256.2), .row A371 n372 c373 71 4 ((recs GPlace.cells) r369.Places), .blk b395 36 [.int .i64 0, .slice none 0 0]] := hs
                              have hs0 : St [] W w [.blk b1 24 [.int .i64 p0.Events, .slice A_p0_1 p0.Places.length c_p0_1], .blk b2 27 [.int .i64 p1.Period, .slice A_p1_1 p1.Starts.length c_p1_1], .blk b86 36 [.int .i64 x87, .slice A89 n90 c91], .row A89 n90 c91 2 1 (ints xs88), .blk b193 36 [.int .i64 r187.1.Period, .slice A189 n190 c191], .row A189 n190 c191 2 1 (ints r256.2)] := hs.sel [0, 1, 2, 3, 4, 5] (by decide)
                              refine wpO_nil ⟨Or.inr hs0, ?_⟩
                              refine gRun (i := 3) rfl (by kernel_rfl) ?_
                              obtain ⟨r396, hc397, hj349⟩ := bind_some hj349
                              refine sCall hf rfl rfl rfl rfl (cap := []) rfl rfl en19 (laws_toTimetable_ok F p1 A_p1_1 p1.Starts.length c_p1_1 rfl _ _ hc397 (h_p1_1.at hs)) ?_; clear hf
                              rintro _ w ⟨A398, n399, c400, rfl, hn401, hs1⟩ a hf
                              have hs : St [] W w [.blk b1 24 [.int .i64 p0.Events, .slice A_p0_1 p0.Places.length c_p0_1], .blk b2 27 [.int .i64 p1.Period, .slice A_p1_1 p1.Starts.length c_p1_1], .blk b86 36 [.int .i64 x87, .slice A89 n90 c91], .row A89 n90 c91 2 1 (ints xs88), .blk b193 36 [.int .i64 r187.1.Period, .slice A189 n190 c191], .row A189 n190 c191 2 1 (ints r256.2), .row A371 n372 c373 71 4 ((recs GPlace.cells) r369.Places), .blk b395 36 [.int .i64 0, .slice none 0 0], .row A398 n399 c400 2 1 (ints r396.Starts)] := hs.join hs1
                              clear hs1
                              have hs0 : St [] W w [.blk b1 24 [.int .i64 p0.Events, .slice A_p0_1 p0.Places.length c_p0_1], .blk b2 27 [.int .i64 p1.Period, .slice A_p1_1 p1.Starts.length c_p1_1], .blk b86 36 [.int .i64 x87, .slice A89 n90 c91], .row A89 n90 c91 2 1 (ints xs88), .blk b193 36 [.int .i64 r187.1.Period, .slice A189 n190 c191], .row A189 n190 c191 2 1 (ints r256.2)] := hs.sel [0, 1, 2, 3, 4, 5] (by decide)
                              refine wpO_nil ⟨Or.inr hs0, ?_⟩
                              refine gRun (i := 5) rfl (by kernel_rfl) ?_
                              obtain ⟨r402, hc403, hj349⟩ := bind_some hj349
                              refine sCall hf rfl rfl rfl rfl (cap := []) rfl rfl en55 (impl_ShiftTimetable_ok F r369 A371 n372 c373 hn374 r396 A398 n399 c400 hn401 p2 _ _ hc403 (hs.rd (i := 6) rfl) (hs.rd (i := 8) rfl)) ?_; clear hf
                              rintro _ w ⟨A404, n405, c406, rfl, hn407, hs1⟩ a hf
                              have hs : St [] W w [.blk b1 24 [.int .i64 p0.Events, .slice A_p0_1 p0.Places.length c_p0_1], .blk b2 27 [.int .i64 p1.Period, .slice A_p1_1 p1.Starts.length c_p1_1], .blk b86 36 [.int .i64 x87, .slice A89 n90 c91], .row A89 n90 c91 2 1 (ints xs88), .blk b193 36 [.int .i64 r187.1.Period, .slice A189 n190 c191], .row A189 n190 c191 2 1 (ints r256.2), .row A371 n372 c373 71 4 ((recs GPlace.cells) r369.Places), .blk b395 36 [.int .i64 0, .slice none 0 0], .row A398 n399 c400 2 1 (ints r396.Starts), .row A404 n405 c406 2 1 (ints r402.1.Starts)] := hs.join hs1
                              clear hs1
                              have hs0 : St [] W w [.blk b1 24 [.int .i64 p0.Events, .slice A_p0_1 p0.Places.length c_p0_1], .blk b2 27 [.int .i64 p1.Period, .slice A_p1_1 p1.Starts.length c_p1_1], .blk b86 36 [.int .i64 x87, .slice A89 n90 c91], .row A89 n90 c91 2 1 (ints xs88), .blk b193 36 [.int .i64 r187.1.Period, .slice A189 n190 c191], .row A189 n190 c191 2 1 (ints r256.2)] := hs.sel [0, 1, 2, 3, 4, 5] (by decide)
                              refine wpO_nil ⟨Or.inr hs0, ?_⟩
                              refine gY (i := 6) [] rfl (by kernel_rfl) (by kernel_rfl) hf hs0 rfl rfl rfl (Y_move rfl rfl) ?_; clear hf; intro a hf
                              refine gY (i := 7) [] rfl (by kernel_rfl) (by kernel_rfl) hf hs0 rfl rfl rfl (Y_extract rfl rfl rfl) ?_; clear hf; intro a hf
                              refine gY (i := 8) [] rfl (by kernel_rfl) (by kernel_rfl) hf hs0 rfl rfl rfl (Y_extract rfl rfl rfl) ?_; clear hf; intro a hf
                              refine gRun (i := 10) rfl (by kernel_rfl) ?_
                              refine sStore (i := 7) (us := [.int .i64 r402.1.Period, .slice A404 n405 c406]) hf hs rfl rfl rfl rfl rfl rfl ti36 rfl rfl rfl (Nat.le_of_ble_eq_true rfl) rfl ?_; clear hs; intro w hs
                              have hs : St [] W w [.blk b1 24 [.int .i64 p0.Events, .slice A_p0_1 p0.Places.length c_p0_1], .blk b2 27 [.int .i64 p1.Period, .slice A_p1_1 p1.Starts.length c_p1_1], .blk b86 36 [.int .i64 x87, .slice A89 n90 c91], .row A89 n90 c91 2 1 (ints xs88), .blk b193 36 [.int .i64 r187.1.Period, .slice A189 n190 c191], .row A189 n190 c191 2 1 (ints r256.2), .row A371 n372 c373 71 4 ((recs GPlace.cells) r369.Places), .blk b395 36 [.int .i64 r402.1.Period, .slice A404 n405 c406], .row A398 n399 c400 2 1 (ints r396.Starts), .row A404 n405 c406 2 1 (ints r402.1.Starts)] := hs
                              have hs0 : St [] W w [.blk b1 24 [.int .i64 p0.Events, .slice A_p0_1 p0.Places.length c_p0_1], .blk b2 27 [.int .i64 p1.Period, .slice A_p1_1 p1.Starts.length c_p1_1], .blk b86 36 [.int .i64 x87, .slice A89 n90 c91], .row A89 n90 c91 2 1 (ints xs88), .blk b193 36 [.int .i64 r187.1.Period, .slice A189 n190 c191], .row A189 n190 c191 2 1 (ints r256.2)] := hs.sel [0, 1, 2, 3, 4, 5] (by decide)
                              refine wpO_nil ⟨Or.inr hs0, ?_⟩
                              refine gY (i := 11) [] rfl (by kernel_rfl) (by kernel_rfl) hf hs0 rfl rfl rfl (Y_assign rfl rfl) ?_; clear hf; intro a hf
                              refine gDone (by kernel_rfl) ?_
                              clear hs0
                              refine wpL_nil (then_normal ?_)
                              exact ⟨r402.1.Period, r402.1.Starts, r402.2, b395, A404, n405, c406, Option.some.inj hj349, hn407, (Fr.pick (Fr.pick (Fr.pick (Fr.pick (Fr.pick (Fr.pick hf.none hf rfl) hf rfl) hf rfl) hf rfl) hf rfl) hf rfl), hs.sel [2, 3, 4, 5, 7, 9] (by decide)⟩
                          · refine sAlloc hf hs rfl rfl rfl rfl ti36 ?_; clear hf hs; intro a w b408 hs hf
                            have hs : St [] W w [.blk b1 24 [.int .i64 p0.Events, .slice A_p0_1 p0.Places.length c_p0_1], .blk b2 27 [.int .i64 p1.Period, .slice A_p1_1 p1.Starts.length c_p1_1], .blk b86 36 [.int .i64 x87, .slice A89 n90 c91], .row A89 n90 c91 2 1 (ints xs88), .blk b193 36 [.int .i64 r187.1.Period, .slice A189 n190 c191], .row A189 n190 c191 2 1 (ints r256.2), .blk b408 36 [.int .i64 0, .slice none 0 0]] := hs
                            have hs0 : St [] W w [.blk b1 24 [.int .i64 p0.Events, .slice A_p0_1 p0.Places.length c_p0_1], .blk b2 27 [.int .i64 p1.Period, .slice A_p1_1 p1.Starts.length c_p1_1], .blk b86 36 [.int .i64 x87, .slice A89 n90 c91], .row A89 n90 c91 2 1 (ints xs88), .blk b193 36 [.int .i64 r187.1.Period, .slice A189 n190 c191], .row A189 n190 c191 2 1 (ints r256.2)] := hs.sel [0, 1, 2, 3, 4, 5] (by decide)
                            refine wpO_nil ⟨Or.inr hs0, ?_⟩
                            refine gRun (i := 1) rfl (by kernel_rfl) ?_
                            obtain ⟨r409, hc410, hj349⟩ := bind_some hj349
                            refine sCall hf rfl rfl rfl rfl (cap := []) rfl rfl en18 (laws_toEventGraph_ok F p0 A_p0_1 p0.Places.length c_p0_1 rfl _ _ hc410 (h_p0_1.at hs)) ?_; clear hf
                            rintro _ w ⟨A411, n412, c413, rfl, hn414, hs1⟩ a hf
                            have hs : St [] W w [.blk b1 24 [.int .i64 p0.Events, .slice A_p0_1 p0.Places.length c_p0_1], .blk b2 27 [.int .i64 p1.Period, .slice A_p1_1 p1.Starts.length c_p1_1], .blk b86 36 [.int .i64 x87, .slice A89 n90 c91], .row A89 n90 c91 2 1 (ints xs88), .blk b193 36 [.int .i64 r187.1.Period, .slice A189 n190 c191], .row A189 n190 c191 2 1 (ints r256.2), .blk b408 36 [.int .i64 0, .slice none 0 0], .row A411 n412 c413 71 4 ((recs GPlace.cells) r409.Places)] := hs.join hs1
                            clear hs1
                            have hs0 : St [] W w [.blk b1 24 [.int .i64 p0.Events, .slice A_p0_1 p0.Places.length c_p0_1], .blk b2 27 [.int .i64 p1.Period, .slice A_p1_1 p1.Starts.length c_p1_1], .blk b86 36 [.int .i64 x87, .slice A89 n90 c91], .row A89 n90 c91 2 1 (ints xs88), .blk b193 36 [.int .i64 r187.1.Period, .slice A189 n190 c191], .row A189 n190 c191 2 1 (ints r256.2)] := hs.sel [0, 1, 2, 3, 4, 5] (by decide)
                            refine wpO_nil ⟨Or.inr hs0, ?_⟩
                            refine gRun (i := 3) rfl (by kernel_rfl) ?_
                            obtain ⟨r415, hc416, hj349⟩ := bind_some hj349
                            refine sCall hf rfl rfl rfl rfl (cap := []) rfl rfl en19 (laws_toTimetable_ok F p1 A_p1_1 p1.Starts.length c_p1_1 rfl _ _ hc416 (h_p1_1.at hs)) ?_; clear hf
                            rintro _ w ⟨A417, n418, c419, rfl, hn420, hs1⟩ a hf
                            have hs : St [] W w [.blk b1 24 [.int .i64 p0.Events, .slice A_p0_1 p0.Places.length c_p0_1], .blk b2 27 [.int .i64 p1.Period, .slice A_p1_1 p1.Starts.length c_p1_1], .blk b86 36 [.int .i64 x87, .slice A89 n90 c91], .row A89 n90 c91 2 1 (ints xs88), .blk b193 36 [.int .i64 r187.1.Period, .slice A189 n190 c191], .row A189 n190 c191 2 1 (ints r256.2), .blk b408 36 [.int .i64 0, .slice none 0 0], .row A411 n412 c413 71 4 ((recs GPlace.cells) r409.Places), .row A417 n418 c419 2 1 (ints r415.Starts)] := hs.join hs1
                            clear hs1
                            have hs0 : St [] W w [.blk b1 24 [.int .i64 p0.Events, .slice A_p0_1 p0.Places.length c_p0_1], .blk b2 27 [.int .i64 p1.Period, .slice A_p1_1 p1.Starts.length c_p1_1], .blk b86 36 [.int .i64 x87, .slice A89 n90 c91], .row A89 n90 c91 2 1 (ints xs88), .blk b193 36 [.int .i64 r187.1.Period, .slice A189 n190 c191], .row A189 n190 c191 2 1 (ints r256.2)] := hs.sel [0, 1, 2, 3, 4, 5] (by decide)
                            refine wpO_nil ⟨Or.inr hs0, ?_⟩
                            refine gRun (i := 5) rfl (by kernel_rfl) ?_
                            obtain ⟨r421, hc422, hj349⟩ := bind_some hj349
                            refine sCall hf rfl rfl rfl rfl (cap := []) rfl rfl en55 (impl_ShiftTimetable_ok F r409 A411 n412 c413 hn414 r415 A417 n418 c419 hn420 p2 _ _ hc422 (hs.rd (i := 7) rfl) (hs.rd (i := 8) rfl)) ?_; clear hf
                            rintro _ w ⟨A423, n424, c425, rfl, hn426, hs1⟩ a hf
                            have hs : St [] W w [.blk b1 24 [.int .i64 p0.Events, .slice A_p0_1 p0.Places.length c_p0_1], .blk b2 27 [.int .i64 p1.Period, .slice A_p1_1 p1.Starts.length c_p1_1], .blk b86 36 [.int .i64 x87, .slice A89 n90 c91], .row A89 n90 c91 2 1 (ints xs88), .blk b193 36 [.int .i64 r187.1.Period, .slice A189 n190 c191], .row A189 n190 c191 2 1 (ints r256.2), .blk b408 36 [.int .i64 0, .slice none 0 0], .row A411 n412 c413 71 4 ((recs GPlace.cells) r409.Places), .row A417 n418 c419 2 1 (ints r415.Starts), .row A423 n424 c425 2 1 (ints r421.1.Starts)] := hs.join hs1
                            clear hs1
                            have hs0 : St [] W w [.blk b1 24 [.int .i64 p0.Events, .slice A_p0_1 p0.Places.length c_p0_1], .blk b2 27 [.int .i64 p1.Period, .slice A_p1_1 p1.Starts.length c_p1_1], .blk b86 36 [.int .i64 x87, .slice A89 n90 c91], .row A89 n90 c91 2 1 (ints xs88), .blk b193 36 [.int .i64 r187.1.Period, .slice A189 n190 c191], .row A189 n190 c191 2 1 (ints r256.2)] := hs.sel [0, 1, 2, 3, 4, 5] (by decide)
                            refine wpO_nil ⟨Or.inr hs0, ?_⟩
                            refine gY (i := 6) [] rfl (by kernel_rfl) (by kernel_rfl) hf hs0 rfl rfl rfl (Y_move rfl rfl) ?_; clear hf; intro a hf
                            refine gY (i := 7) [] rfl (by kernel_rfl) (by kernel_rfl) hf hs0 rfl rfl rfl (Y_extract rfl rfl rfl) ?_; clear hf; intro a hf
                            refine gY (i := 8) [] rfl (by kernel_rfl) (by kernel_rfl) hf hs0 rfl rfl rfl (Y_extract rfl rfl rfl) ?_; clear hf; intro a hf
                            refine gRun (i := 10) rfl (by kernel_rfl) ?_
                            refine sStore (i := 6) (us := [.int .i64 r421.1.Period, .slice A423 n424 c425]) hf hs rfl rfl rfl rfl rfl rfl ti36 rfl rfl rfl (Nat.le_of_ble_eq_true rfl) rfl ?_; clear hs; intro w hs
                            have hs : St [] W w [.blk b1 24 [.int .i64 p0.Events, .slice A_p0_1 p0.Places.length c_p0_1], .blk b2 27 [.int .i64 p1.Period, .slice A_p1_1 p1.Starts.length c_p1_1], .blk b86 36 [.int .i64 x87, .slice A89 n90 c91], .row A89 n90 c91 2 1 (ints xs88), .blk b193 36 [.int .i64 r187.1.Period, .slice A189 n190 c191], .row A189 n190 c191 2 1 (ints r256.2), .blk b408 36 [.int .i64 r421.1.Period, .slice A423 n424 c425], .row A411 n412 c413 71 4 ((recs GPlace.cells) r409.Places), .row A417 n418 c419 2 1 (ints r415.Starts), .row A423 n424 c425 2 1 (ints r421.1.Starts)] := hs
                            have hs0 : St [] W w [.blk b1 24 [.int .i64 p0.Events, .slice A_p0_1 p0.Places.length c_p0_1], .blk b2 27 [.int .i64 p1.Period, .slice A_p1_1 p1.Starts.length c_p1_1], .blk b86 36 [.int .i64 x87, .slice A89 n90 c91], .row A89 n90 c91 2 1 (ints xs88), .blk b193 36 [.int .i64 r187.1.Period, .slice A189 n190 c191], .row A189 n190 c191 2 1 (ints r256.2)] := hs.sel [0, 1, 2, 3, 4, 5] (by decide)
                            refine wpO_nil ⟨Or.inr hs0, ?_⟩
                            refine gY (i := 11) [] rfl (by kernel_rfl) (by kernel_rfl) hf hs0 rfl rfl rfl (Y_assign rfl rfl) ?_; clear hf; intro a hf
                            refine gDone (by kernel_rfl) ?_
                            clear hs0
                            refine wpL_nil (then_normal ?_)
                            exact ⟨r421.1.Period, r421.1.Starts, r421.2, b408, A423, n424, c425, Option.some.inj hj349, hn426, (Fr.pick (Fr.pick (Fr.pick (Fr.pick (Fr.pick (Fr.pick hf.none hf rfl) hf rfl) hf rfl) hf rfl) hf rfl) hf rfl), hs.sel [2, 3, 4, 5, 6, 9] (by decide)⟩
                        · rintro a w ⟨x341, xs342, x347, b340, A343, n344, c345, hr_, hn346, hf, hs⟩
                          subst hr_
                          try dsimp only at hm
                          refine wpL_seq ?_
                          refine wpL_seq ?_
                          obtain ⟨r431, hj432, hm⟩ := bind_some hm
                          refine wpL_cut (fun a w => ∃ b430 : Bool, b430 = r431 ∧ Fr a 124 [(12, .pointer (some ⟨b193, 0, none⟩)), (15, .int .i64 r256.1), (115, .bool b430)] ∧ St [] W w [.blk b193 36 [.int .i64 r187.1.Period, .slice A189 n190 c191], .row A189 n190 c191 2 1 (ints r256.2)]) ?_ ?_
                          · refine wpL_region ?_
                            refine sY hf hs rfl rfl rfl (Y_load_blkS rfl rfl (i := 4) rfl ag36 ti36 rfl) ?_; clear hf; intro a hf
                            refine sY hf hs rfl rfl rfl (Y_load_blkS rfl rfl (i := 0) rfl ag36 ti36 rfl) ?_; clear hf; intro a hf
                            obtain ⟨r433, hc434, hj432⟩ := bind_some hj432
                            refine sCall hf rfl rfl rfl rfl (cap := []) rfl rfl en22 (laws_eqTimetable_ok F (GTimetable.mk x341 xs342) A343 n344 c345 hn346 (GTimetable.mk x87 xs88) A89 n90 c91 hn92 _ _ hc434 (hs.rd (i := 5) rfl) (hs.rd (i := 1) rfl)) ?_; clear hf
                            rintro _ w ⟨rfl, hs1⟩ a hf
                            have hs : St [] W w [.blk b86 36 [.int .i64 x87, .slice A89 n90 c91], .row A89 n90 c91 2 1 (ints xs88), .blk b193 36 [.int .i64 r187.1.Period, .slice A189 n190 c191], .row A189 n190 c191 2 1 (ints r256.2), .blk b340 36 [.int .i64 x341, .slice A343 n344 c345], .row A343 n344 c345 2 1 (ints xs342)] := hs.ext hs1.below
                            clear hs1
                            refine sY hf hs rfl rfl rfl (Y_not rfl rfl) ?_; clear hf; intro a hf
                            refine sY hf hs rfl rfl rfl (Y_move rfl rfl) ?_; clear hf; intro a hf
                            refine bsplit (!r433) (fun hb435 => ?_) (fun hb435 => ?_)
                            · have hj432 := bif_t hj432 hb435
                              refine sNo hf rfl rfl rfl (congrArg (fun b => some (Value.bool b)) hb435) rfl rfl rfl ?_; clear hf; intro a hf
                              refine sNo hf rfl rfl rfl (congrArg (fun b => some (Value.bool b)) hb435) rfl rfl rfl ?_; clear hf; intro a hf
                              refine sNo hf rfl rfl rfl (congrArg (fun b => some (Value.bool b)) hb435) rfl rfl rfl ?_; clear hf; intro a hf
                              refine sY hf hs rfl rfl rfl (Y_pickT rfl (congrArg (fun b => some (Value.bool b)) hb435) rfl) ?_; clear hf; intro a hf
                              refine wpO_nil ?_
                              refine wpL_nil (then_normal ?_)
                              exact ⟨true, Option.some.inj hj432, (Fr.pick (Fr.pick (Fr.pick hf.none hf rfl) hf rfl) hf rfl), hs.sel [2, 3] (by decide)⟩
                            · have hj432 := bif_f hj432 hb435
                              refine sYg hf hs rfl rfl rfl (congrArg (fun b => some (Value.bool b)) hb435) rfl rfl rfl (Y_move rfl rfl) ?_; clear hf; intro a hf
                              refine sYg hf hs rfl rfl rfl (congrArg (fun b => some (Value.bool b)) hb435) rfl rfl rfl (Y_move rfl rfl) ?_; clear hf; intro a hf
                              refine sYg hf hs rfl rfl rfl (congrArg (fun b => some (Value.bool b)) hb435) rfl rfl rfl (Y_neq rfl rfl rfl) ?_; clear hf; intro a hf
                              refine sY hf hs rfl rfl rfl (Y_pickF rfl (congrArg (fun b => some (Value.bool b)) hb435) rfl) ?_; clear hf; intro a hf
                              refine wpO_nil ?_
                              refine wpL_nil (then_normal ?_)
                              exact ⟨(x347 != x93), Option.some.inj hj432, (Fr.pick (Fr.pick (Fr.pick hf.none hf rfl) hf rfl) hf rfl), hs.sel [2, 3] (by decide)⟩
                          · rintro a w ⟨b430, hr_, hf, hs⟩
                            subst hr_
                            try dsimp only at hm
                            refine wpL_cond hf rfl (fun hb436 => ?_) (fun hb436 => ?_)
                            · have hm := bif_t hm hb436
                              refine wpL_seq ?_
                              refine wpL_region ?_
                              refine sY hf hs rfl rfl rfl (Y_assign rfl rfl) ?_; clear hf; intro a hf
                              refine wpO_nil ?_
                              obtain rfl := Option.some.inj hm
                              refine wpL_ret (ret_tmp rfl hf rfl ?_)
                              exact ⟨_, rfl, rfl, hs.sel [] (by decide)⟩
                            · have hm := bif_f hm hb436
                              refine wpL_skip ?_
                              refine wpL_seq ?_
                              refine wpL_region ?_
                              refine sY hf hs rfl rfl rfl (Y_assign rfl rfl) ?_; clear hf; intro a hf
                              refine wpO_nil ?_
                              refine wpL_seq ?_
                              refine wpL_region ?_
                              refine sY hf hs rfl rfl rfl (Y_load_blkS rfl rfl (i := 0) rfl ag36 ti36 rfl) ?_; clear hf; intro a hf
                              refine sY hf hs rfl rfl rfl (Y_move rfl rfl) ?_; clear hf; intro a hf
                              obtain ⟨r437, hc438, hm⟩ := bind_some hm
                              refine sCall hf rfl rfl rfl rfl (cap := []) rfl rfl en56 (laws_heldTimetable_ok F (GTimetable.mk r187.1.Period r256.2) A189 n190 c191 hn258 1 _ _ hc438 (hs.rd (i := 1) rfl)) ?_; clear hf
                              rintro _ w ⟨rfl, hs1⟩ a hf
                              have hs : St [] W w [.blk b193 36 [.int .i64 r187.1.Period, .slice A189 n190 c191], .row A189 n190 c191 2 1 (ints r256.2)] := hs.ext hs1.below
                              clear hs1
                              refine sY hf hs rfl rfl rfl (Y_assign rfl rfl) ?_; clear hf; intro a hf
                              refine wpO_nil ?_
                              refine wpL_seq ?_
                              refine wpL_seq ?_
                              refine wpL_region ?_
                              refine sY hf hs rfl rfl rfl (Y_move rfl rfl) ?_; clear hf; intro a hf
                              refine sY hf hs rfl rfl rfl (Y_lss rfl rfl rfl) ?_; clear hf; intro a hf
                              refine wpO_nil ?_
                              refine wpL_cond hf rfl (fun hb439 => ?_) (fun hb439 => ?_)
                              · have hm := bif_t hm hb439
                                refine wpL_seq ?_
                                refine wpL_region ?_
                                refine sY hf hs rfl rfl rfl (Y_assign rfl rfl) ?_; clear hf; intro a hf
                                refine wpO_nil ?_
                                obtain rfl := Option.some.inj hm
                                refine wpL_ret (ret_tmp rfl hf rfl ?_)
                                exact ⟨_, rfl, rfl, hs.sel [] (by decide)⟩
                              · have hm := bif_f hm hb439
                                refine wpL_skip ?_
                                refine wpL_seq ?_
                                refine wpL_seq ?_
                                refine wpL_region ?_
                                refine sY hf hs rfl rfl rfl (Y_move rfl rfl) ?_; clear hf; intro a hf
                                refine sY hf hs rfl rfl rfl (Y_move rfl rfl) ?_; clear hf; intro a hf
                                refine sY hf hs rfl rfl rfl (Y_neq rfl rfl rfl) ?_; clear hf; intro a hf
                                refine wpO_nil ?_
                                refine wpL_cond hf rfl (fun hb440 => ?_) (fun hb440 => ?_)
                                · have hm := bif_t hm hb440
                                  refine wpL_seq ?_
                                  refine wpL_region ?_
                                  refine sY hf hs rfl rfl rfl (Y_assign rfl rfl) ?_; clear hf; intro a hf
                                  refine wpO_nil ?_
                                  obtain rfl := Option.some.inj hm
                                  refine wpL_ret (ret_tmp rfl hf rfl ?_)
                                  exact ⟨_, rfl, rfl, hs.sel [] (by decide)⟩
                                · have hm := bif_f hm hb440
                                  refine wpL_skip ?_
                                  refine wpL_seq ?_
                                  refine wpL_region ?_
                                  refine sY hf hs rfl rfl rfl (Y_assign rfl rfl) ?_; clear hf; intro a hf
                                  refine wpO_nil ?_
                                  obtain rfl := Option.some.inj hm
                                  refine wpL_ret (ret_tmp rfl hf rfl ?_)
                                  exact ⟨_, rfl, rfl, hs.sel [] (by decide)⟩

end Go.Proofs.Ythbcakdjdbfepaa
