/- The functions do what their models say. -/
import Derived.Test.YthbcakdjdbfepaaDelayedEventsLifted2
import Derived.Test.YthbcakdjdbfepaaRows
namespace Go.Proofs.Ythbcakdjdbfepaa
open Go.RowKit

set_option maxRecDepth 100000 in
theorem impl_checkDelays_ok (F : Nat) (p0_g : GEventGraph) (A_p0_g_1 : Option Addr) (n_p0_g_1 c_p0_g_1 : Nat) (hn_p0_g_1 : n_p0_g_1 = p0_g.Places.length) (p1_t : GTimetable) (A_p1_t_1 : Option Addr) (n_p1_t_1 c_p1_t_1 : Nat) (hn_p1_t_1 : n_p1_t_1 = p1_t.Starts.length) (p2_delays : List Int) (A_p2_delays_1 : Option Addr) (n_p2_delays_1 c_p2_delays_1 : Nat) (hn_p2_delays_1 : n_p2_delays_1 = p2_delays.length) (p3_ok : Bool) (r : Int) (W : World) (hm : impl_checkDelays F p0_g p1_t p2_delays p3_ok = some r) (h_p0_g_1 : Rd W A_p0_g_1 ((recs GPlace.cells) p0_g.Places)) (h_p1_t_1 : Rd W A_p1_t_1 (ints p1_t.Starts)) (h_p2_delays_1 : Rd W A_p2_delays_1 (ints p2_delays)) :
    Calls Try.prog 64 [.agg #[.int .i64 p0_g.Events, .slice A_p0_g_1 n_p0_g_1 c_p0_g_1], .agg #[.int .i64 p1_t.Period, .slice A_p1_t_1 n_p1_t_1 c_p1_t_1], .slice A_p2_delays_1 n_p2_delays_1 c_p2_delays_1, .bool p3_ok].toArray W fun e w' => ∃ v, e = .returned v ∧ v = .int .i64 r ∧ St [] W w' [] := by
  subst hn_p0_g_1
  subst hn_p1_t_1
  subst hn_p2_delays_1
  unfold impl_checkDelays at hm
  refine Calls.enter (N := 44) Try.func64 rfl rfl rfl (fun a hf => ?_)
  have hs := St.start W
  obtain ⟨w, hw_⟩ : ∃ w, w = W := ⟨W, rfl⟩
  clear hw_ w
  refine wpL_seq ?_
  refine wpL_region ?_
  refine sBox hf hs rfl rfl rfl rfl rfl (cs := [.int .i64 p0_g.Events, .slice A_p0_g_1 p0_g.Places.length c_p0_g_1]) rfl ?_; clear hf hs; intro a w b1 hs hf
  have hs : St [] W w [.blk b1 34 [.int .i64 p0_g.Events, .slice A_p0_g_1 p0_g.Places.length c_p0_g_1]] := hs
  refine sBox hf hs rfl rfl rfl rfl rfl (cs := [.int .i64 p1_t.Period, .slice A_p1_t_1 p1_t.Starts.length c_p1_t_1]) rfl ?_; clear hf hs; intro a w b2 hs hf
  have hs : St [] W w [.blk b1 34 [.int .i64 p0_g.Events, .slice A_p0_g_1 p0_g.Places.length c_p0_g_1], .blk b2 36 [.int .i64 p1_t.Period, .slice A_p1_t_1 p1_t.Starts.length c_p1_t_1]] := hs
  refine sY hf hs rfl rfl rfl (Y_assign rfl rfl) ?_; clear hf; intro a hf
  refine wpO_nil ?_
  refine wpL_seq ?_
  refine wpL_block0 ?_
  refine wpL_seq ?_
  refine wpL_region ?_
  refine sY hf hs rfl rfl rfl (Y_load_blkS rfl rfl (i := 0) rfl ag34 ti34 rfl) ?_; clear hf; intro a hf
  obtain ⟨r3, hc4, hm⟩ := bind_some hm
  refine sCall hf rfl rfl rfl rfl (cap := []) rfl rfl en95 (impl_IsEventGraph_ok F p0_g A_p0_g_1 p0_g.Places.length c_p0_g_1 rfl _ _ hc4 (h_p0_g_1.at hs)) ?_; clear hf
  rintro _ w ⟨rfl, hs1⟩ a hf
  have hs : St [] W w [.blk b1 34 [.int .i64 p0_g.Events, .slice A_p0_g_1 p0_g.Places.length c_p0_g_1], .blk b2 36 [.int .i64 p1_t.Period, .slice A_p1_t_1 p1_t.Starts.length c_p1_t_1]] := hs.ext hs1.below
  clear hs1
  refine sY hf hs rfl rfl rfl (Y_not rfl rfl) ?_; clear hf; intro a hf
  refine sY hf hs rfl rfl rfl (Y_assign rfl rfl) ?_; clear hf; intro a hf
  refine wpO_nil ?_
  refine wpL_cond hf rfl (fun hb5 => ?_) (fun hb5 => ?_)
  · have hm := bif_t hm hb5
    refine wpL_seq ?_
    refine wpL_region ?_
    refine sY hf hs rfl rfl rfl (Y_assign rfl rfl) ?_; clear hf; intro a hf
    refine wpO_nil ?_
    obtain rfl := Option.some.inj hm
    refine wpL_ret (Qb_ret (ret_tmp rfl hf rfl ?_))
    exact ⟨_, rfl, rfl, hs.sel [] (by decide)⟩
  · have hm := bif_f hm hb5
    refine wpL_seq ?_
    obtain ⟨r14, hj15, hm⟩ := bind_some hm
    refine wpL_cut (fun a w => ∃ b13 : Bool, b13 = r14 ∧ Fr a 44 [(4, .pointer (some ⟨b1, 0, none⟩)), (5, .pointer (some ⟨b2, 0, none⟩)), (13, .bool b13)] ∧ St [] W w [.blk b1 34 [.int .i64 p0_g.Events, .slice A_p0_g_1 p0_g.Places.length c_p0_g_1], .blk b2 36 [.int .i64 p1_t.Period, .slice A_p1_t_1 p1_t.Starts.length c_p1_t_1]]) ?_ ?_
    · refine wpL_region ?_
      refine sY hf hs rfl rfl rfl (Y_load_blkS rfl rfl (i := 0) rfl ag34 ti34 rfl) ?_; clear hf; intro a hf
      refine sY hf hs rfl rfl rfl (Y_load_blkS rfl rfl (i := 1) rfl ag36 ti36 rfl) ?_; clear hf; intro a hf
      obtain ⟨r16, hc17, hj15⟩ := bind_some hj15
      refine sCall hf rfl rfl rfl rfl (cap := []) rfl rfl en96 (impl_isTimetable_ok F p0_g A_p0_g_1 p0_g.Places.length c_p0_g_1 rfl p1_t A_p1_t_1 p1_t.Starts.length c_p1_t_1 rfl _ _ hc17 (h_p0_g_1.at hs) (h_p1_t_1.at hs)) ?_; clear hf
      rintro _ w ⟨rfl, hs1⟩ a hf
      have hs : St [] W w [.blk b1 34 [.int .i64 p0_g.Events, .slice A_p0_g_1 p0_g.Places.length c_p0_g_1], .blk b2 36 [.int .i64 p1_t.Period, .slice A_p1_t_1 p1_t.Starts.length c_p1_t_1]] := hs.ext hs1.below
      clear hs1
      refine sY hf hs rfl rfl rfl (Y_not rfl rfl) ?_; clear hf; intro a hf
      refine sY hf hs rfl rfl rfl (Y_move rfl rfl) ?_; clear hf; intro a hf
      refine bsplit (!r16) (fun hb18 => ?_) (fun hb18 => ?_)
      · have hj15 := bif_t hj15 hb18
        refine sNo hf rfl rfl rfl (congrArg (fun b => some (Value.bool b)) hb18) rfl rfl rfl ?_; clear hf; intro a hf
        refine sNo hf rfl rfl rfl (congrArg (fun b => some (Value.bool b)) hb18) rfl rfl rfl ?_; clear hf; intro a hf
        refine sNo hf rfl rfl rfl (congrArg (fun b => some (Value.bool b)) hb18) rfl rfl rfl ?_; clear hf; intro a hf
        refine sNo hf rfl rfl rfl (congrArg (fun b => some (Value.bool b)) hb18) rfl rfl rfl ?_; clear hf; intro a hf
        refine sNo hf rfl rfl rfl (congrArg (fun b => some (Value.bool b)) hb18) rfl rfl rfl ?_; clear hf; intro a hf
        refine sY hf hs rfl rfl rfl (Y_pickT rfl (congrArg (fun b => some (Value.bool b)) hb18) rfl) ?_; clear hf; intro a hf
        refine sY hf hs rfl rfl rfl (Y_move rfl rfl) ?_; clear hf; intro a hf
        refine sNo hf rfl rfl rfl rfl rfl rfl rfl ?_; clear hf; intro a hf
        refine sNo hf rfl rfl rfl rfl rfl rfl rfl ?_; clear hf; intro a hf
        refine sNo hf rfl rfl rfl rfl rfl rfl rfl ?_; clear hf; intro a hf
        refine sY hf hs rfl rfl rfl (Y_pickT rfl rfl rfl) ?_; clear hf; intro a hf
        refine sY hf hs rfl rfl rfl (Y_move rfl rfl) ?_; clear hf; intro a hf
        refine sNo hf rfl rfl rfl rfl rfl rfl rfl ?_; clear hf; intro a hf
        refine sNo hf rfl rfl rfl rfl rfl rfl rfl ?_; clear hf; intro a hf
        refine sY hf hs rfl rfl rfl (Y_pickT rfl rfl rfl) ?_; clear hf; intro a hf
        refine sY hf hs rfl rfl rfl (Y_assign rfl rfl) ?_; clear hf; intro a hf
        refine wpO_nil ?_
        refine wpL_nil (then_normal ?_)
        exact ⟨true, Option.some.inj hj15, (Fr.pick (Fr.pick (Fr.pick hf.none hf rfl) hf rfl) hf rfl), hs⟩
      · have hj15 := bif_f hj15 hb18
        refine sYg hf hs rfl rfl rfl (congrArg (fun b => some (Value.bool b)) hb18) rfl rfl rfl (Y_move rfl rfl) ?_; clear hf; intro a hf
        refine sYg hf hs rfl rfl rfl (congrArg (fun b => some (Value.bool b)) hb18) rfl rfl rfl (Y_lenH rfl rfl el25 rfl) ?_; clear hf; intro a hf
        refine sYg hf hs rfl rfl rfl (congrArg (fun b => some (Value.bool b)) hb18) rfl rfl rfl (Y_fieldAddr rfl rfl fo34_0) ?_; clear hf; intro a hf
        refine sYg hf hs rfl rfl rfl (congrArg (fun b => some (Value.bool b)) hb18) rfl rfl rfl (Y_load_blk rfl rfl (i := 0) rfl rfl ag2) ?_; clear hf; intro a hf
        refine sYg hf hs rfl rfl rfl (congrArg (fun b => some (Value.bool b)) hb18) rfl rfl rfl (Y_neq rfl rfl rfl) ?_; clear hf; intro a hf
        refine sY hf hs rfl rfl rfl (Y_pickF rfl (congrArg (fun b => some (Value.bool b)) hb18) rfl) ?_; clear hf; intro a hf
        refine sY hf hs rfl rfl rfl (Y_move rfl rfl) ?_; clear hf; intro a hf
        refine bsplit ((p2_delays.length : Int) != p0_g.Events) (fun hb19 => ?_) (fun hb19 => ?_)
        · have hj15 := bif_t hj15 hb19
          refine sNo hf rfl rfl rfl (congrArg (fun b => some (Value.bool b)) hb19) rfl rfl rfl ?_; clear hf; intro a hf
          refine sNo hf rfl rfl rfl (congrArg (fun b => some (Value.bool b)) hb19) rfl rfl rfl ?_; clear hf; intro a hf
          refine sNo hf rfl rfl rfl (congrArg (fun b => some (Value.bool b)) hb19) rfl rfl rfl ?_; clear hf; intro a hf
          refine sY hf hs rfl rfl rfl (Y_pickT rfl (congrArg (fun b => some (Value.bool b)) hb19) rfl) ?_; clear hf; intro a hf
          refine sY hf hs rfl rfl rfl (Y_move rfl rfl) ?_; clear hf; intro a hf
          refine sNo hf rfl rfl rfl rfl rfl rfl rfl ?_; clear hf; intro a hf
          refine sNo hf rfl rfl rfl rfl rfl rfl rfl ?_; clear hf; intro a hf
          refine sY hf hs rfl rfl rfl (Y_pickT rfl rfl rfl) ?_; clear hf; intro a hf
          refine sY hf hs rfl rfl rfl (Y_assign rfl rfl) ?_; clear hf; intro a hf
          refine wpO_nil ?_
          refine wpL_nil (then_normal ?_)
          exact ⟨true, Option.some.inj hj15, (Fr.pick (Fr.pick (Fr.pick hf.none hf rfl) hf rfl) hf rfl), hs⟩
        · have hj15 := bif_f hj15 hb19
          refine sYg hf hs rfl rfl rfl (congrArg (fun b => some (Value.bool b)) hb19) rfl rfl rfl (Y_move rfl rfl) ?_; clear hf; intro a hf
          obtain ⟨r20, hc21, hj15⟩ := bind_some hj15
          refine sCallg hf rfl rfl rfl (congrArg (fun b => some (Value.bool b)) hb19) rfl rfl rfl rfl (cap := []) rfl rfl en103 (impl_allWithin_ok F p2_delays A_p2_delays_1 p2_delays.length c_p2_delays_1 rfl 0 1000000 _ _ hc21 (h_p2_delays_1.at hs)) ?_; clear hf
          rintro _ w ⟨rfl, hs1⟩ a hf
          have hs : St [] W w [.blk b1 34 [.int .i64 p0_g.Events, .slice A_p0_g_1 p0_g.Places.length c_p0_g_1], .blk b2 36 [.int .i64 p1_t.Period, .slice A_p1_t_1 p1_t.Starts.length c_p1_t_1]] := hs.ext hs1.below
          clear hs1
          refine sYg hf hs rfl rfl rfl (congrArg (fun b => some (Value.bool b)) hb19) rfl rfl rfl (Y_not rfl rfl) ?_; clear hf; intro a hf
          refine sY hf hs rfl rfl rfl (Y_pickF rfl (congrArg (fun b => some (Value.bool b)) hb19) rfl) ?_; clear hf; intro a hf
          refine sY hf hs rfl rfl rfl (Y_move rfl rfl) ?_; clear hf; intro a hf
          refine bsplit (!r20) (fun hb22 => ?_) (fun hb22 => ?_)
          · have hj15 := bif_t hj15 hb22
            refine sNo hf rfl rfl rfl (congrArg (fun b => some (Value.bool b)) hb22) rfl rfl rfl ?_; clear hf; intro a hf
            refine sNo hf rfl rfl rfl (congrArg (fun b => some (Value.bool b)) hb22) rfl rfl rfl ?_; clear hf; intro a hf
            refine sY hf hs rfl rfl rfl (Y_pickT rfl (congrArg (fun b => some (Value.bool b)) hb22) rfl) ?_; clear hf; intro a hf
            refine sY hf hs rfl rfl rfl (Y_assign rfl rfl) ?_; clear hf; intro a hf
            refine wpO_nil ?_
            refine wpL_nil (then_normal ?_)
            exact ⟨true, Option.some.inj hj15, (Fr.pick (Fr.pick (Fr.pick hf.none hf rfl) hf rfl) hf rfl), hs⟩
          · have hj15 := bif_f hj15 hb22
            refine sYg hf hs rfl rfl rfl (congrArg (fun b => some (Value.bool b)) hb22) rfl rfl rfl (Y_move rfl rfl) ?_; clear hf; intro a hf
            refine sYg hf hs rfl rfl rfl (congrArg (fun b => some (Value.bool b)) hb22) rfl rfl rfl (Y_not rfl rfl) ?_; clear hf; intro a hf
            refine sY hf hs rfl rfl rfl (Y_pickF rfl (congrArg (fun b => some (Value.bool b)) hb22) rfl) ?_; clear hf; intro a hf
            refine sY hf hs rfl rfl rfl (Y_assign rfl rfl) ?_; clear hf; intro a hf
            refine wpO_nil ?_
            refine wpL_nil (then_normal ?_)
            exact ⟨(!p3_ok), Option.some.inj hj15, (Fr.pick (Fr.pick (Fr.pick hf.none hf rfl) hf rfl) hf rfl), hs⟩
    · rintro a w ⟨b13, hr_, hf, hs⟩
      subst hr_
      try dsimp only at hm
      refine wpL_cond hf rfl (fun hb23 => ?_) (fun hb23 => ?_)
      · have hm := bif_t hm hb23
        refine wpL_seq ?_
        refine wpL_region ?_
        refine sY hf hs rfl rfl rfl (Y_assign rfl rfl) ?_; clear hf; intro a hf
        refine wpO_nil ?_
        obtain rfl := Option.some.inj hm
        refine wpL_ret (Qb_ret (ret_tmp rfl hf rfl ?_))
        exact ⟨_, rfl, rfl, hs.sel [] (by decide)⟩
      · have hm := bif_f hm hb23
        refine wpL_seq ?_
        obtain ⟨r30, hj31, hm⟩ := bind_some hm
        refine wpL_cut (fun a w => ∃ b29 : Bool, b29 = r30 ∧ Fr a 44 [(34, .bool b29)] ∧ St [] W w []) ?_ ?_
        · refine wpL_region ?_
          refine sY hf hs rfl rfl rfl (Y_load_blkS rfl rfl (i := 0) rfl ag34 ti34 rfl) ?_; clear hf; intro a hf
          obtain ⟨r32, hc33, hj31⟩ := bind_some hj31
          refine sCall hf rfl rfl rfl rfl (cap := []) rfl rfl en104 (impl_isLive_ok F p0_g A_p0_g_1 p0_g.Places.length c_p0_g_1 rfl _ _ hc33 (h_p0_g_1.at hs)) ?_; clear hf
          rintro _ w ⟨rfl, hs1⟩ a hf
          have hs : St [] W w [.blk b1 34 [.int .i64 p0_g.Events, .slice A_p0_g_1 p0_g.Places.length c_p0_g_1], .blk b2 36 [.int .i64 p1_t.Period, .slice A_p1_t_1 p1_t.Starts.length c_p1_t_1]] := hs.ext hs1.below
          clear hs1
          refine sY hf hs rfl rfl rfl (Y_not rfl rfl) ?_; clear hf; intro a hf
          refine sY hf hs rfl rfl rfl (Y_move rfl rfl) ?_; clear hf; intro a hf
          refine bsplit (!r32) (fun hb34 => ?_) (fun hb34 => ?_)
          · have hj31 := bif_t hj31 hb34
            refine sNo hf rfl rfl rfl (congrArg (fun b => some (Value.bool b)) hb34) rfl rfl rfl ?_; clear hf; intro a hf
            refine sNo hf rfl rfl rfl (congrArg (fun b => some (Value.bool b)) hb34) rfl rfl rfl ?_; clear hf; intro a hf
            refine sNo hf rfl rfl rfl (congrArg (fun b => some (Value.bool b)) hb34) rfl rfl rfl ?_; clear hf; intro a hf
            refine sNo hf rfl rfl rfl (congrArg (fun b => some (Value.bool b)) hb34) rfl rfl rfl ?_; clear hf; intro a hf
            refine sY hf hs rfl rfl rfl (Y_pickT rfl (congrArg (fun b => some (Value.bool b)) hb34) rfl) ?_; clear hf; intro a hf
            refine sY hf hs rfl rfl rfl (Y_assign rfl rfl) ?_; clear hf; intro a hf
            refine wpO_nil ?_
            refine wpL_nil (then_normal ?_)
            exact ⟨true, Option.some.inj hj31, (Fr.pick hf.none hf rfl), hs.sel [] (by decide)⟩
          · have hj31 := bif_f hj31 hb34
            refine sYg hf hs rfl rfl rfl (congrArg (fun b => some (Value.bool b)) hb34) rfl rfl rfl (Y_load_blkS rfl rfl (i := 0) rfl ag34 ti34 rfl) ?_; clear hf; intro a hf
            refine sYg hf hs rfl rfl rfl (congrArg (fun b => some (Value.bool b)) hb34) rfl rfl rfl (Y_load_blkS rfl rfl (i := 1) rfl ag36 ti36 rfl) ?_; clear hf; intro a hf
            obtain ⟨r35, hc36, hj31⟩ := bind_some hj31
            refine sCallg hf rfl rfl rfl (congrArg (fun b => some (Value.bool b)) hb34) rfl rfl rfl rfl (cap := []) rfl rfl en105 (impl_isKept_ok F p0_g A_p0_g_1 p0_g.Places.length c_p0_g_1 rfl p1_t A_p1_t_1 p1_t.Starts.length c_p1_t_1 rfl _ _ hc36 (h_p0_g_1.at hs) (h_p1_t_1.at hs)) ?_; clear hf
            rintro _ w ⟨rfl, hs1⟩ a hf
            have hs : St [] W w [.blk b1 34 [.int .i64 p0_g.Events, .slice A_p0_g_1 p0_g.Places.length c_p0_g_1], .blk b2 36 [.int .i64 p1_t.Period, .slice A_p1_t_1 p1_t.Starts.length c_p1_t_1]] := hs.ext hs1.below
            clear hs1
            refine sYg hf hs rfl rfl rfl (congrArg (fun b => some (Value.bool b)) hb34) rfl rfl rfl (Y_not rfl rfl) ?_; clear hf; intro a hf
            refine sY hf hs rfl rfl rfl (Y_pickF rfl (congrArg (fun b => some (Value.bool b)) hb34) rfl) ?_; clear hf; intro a hf
            refine sY hf hs rfl rfl rfl (Y_assign rfl rfl) ?_; clear hf; intro a hf
            refine wpO_nil ?_
            refine wpL_nil (then_normal ?_)
            exact ⟨(!r35), Option.some.inj hj31, (Fr.pick hf.none hf rfl), hs.sel [] (by decide)⟩
        · rintro a w ⟨b29, hr_, hf, hs⟩
          subst hr_
          try dsimp only at hm
          refine wpL_cond hf rfl (fun hb37 => ?_) (fun hb37 => ?_)
          · have hm := bif_t hm hb37
            refine wpL_seq ?_
            refine wpL_region ?_
            refine sY hf hs rfl rfl rfl (Y_assign rfl rfl) ?_; clear hf; intro a hf
            refine wpO_nil ?_
            obtain rfl := Option.some.inj hm
            refine wpL_ret (Qb_ret (ret_tmp rfl hf rfl ?_))
            exact ⟨_, rfl, rfl, hs⟩
          · have hm := bif_f hm hb37
            refine wpL_skip ?_
            refine wpL_nil (Qb_normal ?_)
            refine wpL_seq ?_
            refine wpL_region ?_
            refine sY hf hs rfl rfl rfl (Y_assign rfl rfl) ?_; clear hf; intro a hf
            refine wpO_nil ?_
            obtain rfl := Option.some.inj hm
            refine wpL_ret (ret_tmp rfl hf rfl ?_)
            exact ⟨_, rfl, rfl, hs⟩

set_option maxRecDepth 100000 in
theorem impl_delayTable_ok (F : Nat) (p0 : GEventGraph) (A_p0_1 : Option Addr) (n_p0_1 c_p0_1 : Nat) (hn_p0_1 : n_p0_1 = p0.Places.length) (p1 : GTimetable) (A_p1_1 : Option Addr) (n_p1_1 c_p1_1 : Nat) (hn_p1_1 : n_p1_1 = p1.Starts.length) (p2 : List Int) (A_p2_1 : Option Addr) (n_p2_1 c_p2_1 : Nat) (hn_p2_1 : n_p2_1 = p2.length) (p3 : Int) (r : List (List Int)) (W : World) (hm : impl_delayTable F p0 p1 p2 p3 = some r) (h_p0_1 : Rd W A_p0_1 ((recs GPlace.cells) p0.Places)) (h_p1_1 : Rd W A_p1_1 (ints p1.Starts)) (h_p2_1 : Rd W A_p2_1 (ints p2)) :
    Calls Try.prog 79 [.agg #[.int .i64 p0.Events, .slice A_p0_1 n_p0_1 c_p0_1], .agg #[.int .i64 p1.Period, .slice A_p1_1 n_p1_1 c_p1_1], .slice A_p2_1 n_p2_1 c_p2_1, .int .i64 p3].toArray W fun e w' => ∃ v, e = .returned v ∧ ∃ A3661, ∃ n3662, ∃ c3663, ∃ vs3665, v = .slice A3661 n3662 c3663 ∧ n3662 = r.length ∧ St [] W w' [.mat A3661 n3662 c3663 25 2 vs3665 r] := by
  subst hn_p0_1
  subst hn_p1_1
  subst hn_p2_1
  unfold impl_delayTable at hm
  refine Calls.enter (N := 95) Try.func79 rfl rfl rfl (fun a hf => ?_)
  have hs := St.start W
  obtain ⟨w, hw_⟩ : ∃ w, w = W := ⟨W, rfl⟩
  clear hw_ w
  refine wpL_seq ?_
  refine wpL_region ?_
  refine sBox hf hs rfl rfl rfl rfl rfl (cs := [.int .i64 p0.Events, .slice A_p0_1 p0.Places.length c_p0_1]) rfl ?_; clear hf hs; intro a w b1 hs hf
  have hs : St [] W w [.blk b1 34 [.int .i64 p0.Events, .slice A_p0_1 p0.Places.length c_p0_1]] := hs
  refine sBox hf hs rfl rfl rfl rfl rfl (cs := [.int .i64 p1.Period, .slice A_p1_1 p1.Starts.length c_p1_1]) rfl ?_; clear hf hs; intro a w b2 hs hf
  have hs : St [] W w [.blk b1 34 [.int .i64 p0.Events, .slice A_p0_1 p0.Places.length c_p0_1], .blk b2 36 [.int .i64 p1.Period, .slice A_p1_1 p1.Starts.length c_p1_1]] := hs
  refine sY hf hs rfl rfl rfl (Y_assign rfl rfl) ?_; clear hf; intro a hf
  refine wpO_nil ?_
  refine wpL_seq ?_
  refine wpL_region ?_
  refine sY hf hs rfl rfl rfl (Y_load_blkS rfl rfl (i := 0) rfl ag34 ti34 rfl) ?_; clear hf; intro a hf
  obtain ⟨r3, hc4, hm⟩ := bind_some hm
  refine sCall hf rfl rfl rfl rfl (cap := []) rfl rfl en111 (impl_firingOrder_ok F p0 A_p0_1 p0.Places.length c_p0_1 rfl _ _ hc4 (h_p0_1.at hs)) ?_; clear hf
  rintro _ w ⟨A5, n6, c7, rfl, hn8, hs1⟩ a hf
  have hs : St [] W w [.blk b1 34 [.int .i64 p0.Events, .slice A_p0_1 p0.Places.length c_p0_1], .blk b2 36 [.int .i64 p1.Period, .slice A_p1_1 p1.Starts.length c_p1_1], .row A5 n6 c7 2 1 (ints r3.1)] := hs.join hs1
  clear hs1
  refine sY hf hs rfl rfl rfl (Y_move rfl rfl) ?_; clear hf; intro a hf
  refine sY hf hs rfl rfl rfl (Y_extract rfl rfl rfl) ?_; clear hf; intro a hf
  refine sY hf hs rfl rfl rfl (Y_extract rfl rfl rfl) ?_; clear hf; intro a hf
  refine sY hf hs rfl rfl rfl (Y_assign rfl rfl) ?_; clear hf; intro a hf
  refine sY hf hs rfl rfl rfl (Y_assign rfl rfl) ?_; clear hf; intro a hf
  refine wpO_nil ?_
  refine wpL_seq ?_
  refine wpL_region ?_
  refine sY hf hs rfl rfl rfl (Y_assign rfl rfl) ?_; clear hf; intro a hf
  refine wpO_nil ?_
  refine wpL_seq ?_
  refine wpL_seq ?_
  refine wpL_region ?_
  refine sY hf hs rfl rfl rfl (Y_move rfl rfl) ?_; clear hf; intro a hf
  refine sY hf hs rfl rfl rfl (Y_move rfl rfl) ?_; clear hf; intro a hf
  refine wpO_nil ?_
  obtain ⟨r2750, hl2751, hm⟩ := bind_some hm
  have hs : St [] W _ [.blk b1 34 [.int .i64 p0.Events, .slice A_p0_1 p0.Places.length c_p0_1], .blk b2 36 [.int .i64 p1.Period, .slice A_p1_1 p1.Starts.length c_p1_1], .row A5 n6 c7 2 1 (ints r3.1), .mat none 0 0 25 2 [] ([] : List (List Int))] := hs.addNilM 25 2
  refine wpL_block (fun a w => ∃ ms2744 : List (List Int), ∃ A2745, ∃ n2746, ∃ c2747, ∃ vs2749, ms2744 = r2750 ∧ n2746 = ms2744.length ∧ Fr a 95 [(11, .slice A2745 n2746 c2747)] ∧ St [] W w [.mat A2745 n2746 c2747 25 2 vs2749 ms2744]) ?_ ?_
  · refine wpL_loop (fun n a w => ∃ ms1831 : List (List Int), ∃ x1837 : Int, ∃ A1832, ∃ n1833, ∃ c1834, ∃ vs1836, impl_delayTable_L16 F p0 p1 p2 p3 r3 n ms1831 x1837 = some r2750 ∧ n1833 = ms1831.length ∧ Fr a 95 [(2, .slice A_p2_1 p2.length c_p2_1), (4, .pointer (some ⟨b1, 0, none⟩)), (5, .pointer (some ⟨b2, 0, none⟩)), (9, .slice A5 n6 c7), (11, .slice A1832 n1833 c1834), (24, .int .i64 p3), (25, .int .i64 x1837)] ∧ St [] W w [.blk b1 34 [.int .i64 p0.Events, .slice A_p0_1 p0.Places.length c_p0_1], .blk b2 36 [.int .i64 p1.Period, .slice A_p1_1 p1.Starts.length c_p1_1], .row A5 n6 c7 2 1 (ints r3.1), .mat A1832 n1833 c1834 25 2 vs1836 ms1831]) F ?_ ?_ ?_
    · exact ⟨([] : List (List Int)), 0, none, 0, 0, [], hl2751, rfl, (Fr.pick (Fr.pick (Fr.pick (Fr.pick (Fr.pick (Fr.pick (Fr.pick hf.none hf rfl) hf rfl) hf rfl) hf rfl) hf rfl) hf rfl) hf rfl), hs⟩
    · rintro a w ⟨ms1831, x1837, A1832, n1833, c1834, vs1836, h0_, -, -, -⟩; simp [impl_delayTable_L16] at h0_
    · rintro n2753 a w ⟨ms1831, x1837, A1832, n1833, c1834, vs1836, hm2752, hn1835, hf, hs⟩
      rw [impl_delayTable_L16] at hm2752
      refine wpL_seq ?_
      refine wpL_region ?_
      refine sY hf hs rfl rfl rfl (Y_lss rfl rfl rfl) ?_; clear hf; intro a hf
      refine wpO_nil ?_
      refine wpL_seq ?_
      refine wpL_cond hf rfl (fun hb2754 => ?_) (fun hb2754 => ?_)
      · have hm2752 := bif_t hm2752 hb2754
        refine wpL_skip ?_
        refine wpL_seq ?_
        refine wpL_block0 ?_
        refine wpL_seq ?_
        refine wpL_region ?_
        refine sY hf hs rfl rfl rfl (Y_move rfl rfl) ?_; clear hf; intro a hf
        refine sY hf hs rfl rfl rfl (Y_assign rfl rfl) ?_; clear hf; intro a hf
        refine wpO_nil ?_
        refine wpL_seq ?_
        refine wpL_region ?_
        refine sY hf hs rfl rfl rfl (Y_fieldAddr rfl rfl fo34_0) ?_; clear hf; intro a hf
        refine sY hf hs rfl rfl rfl (Y_load_blk rfl rfl (i := 0) rfl rfl ag2) ?_; clear hf; intro a hf
        obtain ⟨xs2757, hk2756, hm2752⟩ := bind_some hm2752
        refine sMakeL (enc := ints) hf hs rfl rfl rfl rfl rfl hk2756 el25 ti2 rfl ints_made ?_; clear hf hs; intro a w A2755 hs hf
        have hs : St [] W w [.blk b1 34 [.int .i64 p0.Events, .slice A_p0_1 p0.Places.length c_p0_1], .blk b2 36 [.int .i64 p1.Period, .slice A_p1_1 p1.Starts.length c_p1_1], .row A5 n6 c7 2 1 (ints r3.1), .mat A1832 n1833 c1834 25 2 vs1836 ms1831, .row A2755 xs2757.length xs2757.length 2 1 (ints xs2757)] := hs
        refine sY hf hs rfl rfl rfl (Y_assign rfl rfl) ?_; clear hf; intro a hf
        refine wpO_nil ?_
        refine wpL_seq ?_
        refine wpL_seq ?_
        refine wpL_region ?_
        refine sY hf hs rfl rfl rfl (Y_move rfl rfl) ?_; clear hf; intro a hf
        refine sY hf hs rfl rfl rfl (Y_eql rfl rfl rfl) ?_; clear hf; intro a hf
        refine wpO_nil ?_
        obtain ⟨r2761, hj2762, hm2752⟩ := bind_some hm2752
        refine wpL_cut (fun a w => ∃ xs2759 : List Int, xs2759 = r2761 ∧ xs2757.length = xs2759.length ∧ Fr a 95 [(2, .slice A_p2_1 p2.length c_p2_1), (4, .pointer (some ⟨b1, 0, none⟩)), (5, .pointer (some ⟨b2, 0, none⟩)), (9, .slice A5 n6 c7), (11, .slice A1832 n1833 c1834), (12, .int .i64 x1837), (13, .slice A2755 xs2757.length xs2757.length), (24, .int .i64 p3), (25, .int .i64 x1837)] ∧ St [] W w [.blk b1 34 [.int .i64 p0.Events, .slice A_p0_1 p0.Places.length c_p0_1], .blk b2 36 [.int .i64 p1.Period, .slice A_p1_1 p1.Starts.length c_p1_1], .row A5 n6 c7 2 1 (ints r3.1), .mat A1832 n1833 c1834 25 2 vs1836 ms1831, .row A2755 xs2757.length xs2757.length 2 1 (ints xs2759)]) ?_ ?_
        · refine wpL_cond hf rfl (fun hb2763 => ?_) (fun hb2763 => ?_)
          · have hj2762 := bif_t hj2762 hb2763
            refine wpL_region ?_
            refine sY hf hs rfl rfl rfl (Y_move rfl rfl) ?_; clear hf; intro a hf
            refine sY hf hs rfl rfl rfl (Y_move rfl rfl) ?_; clear hf; intro a hf
            refine sCopy (i := 4) (xs := xs2757) (ys := p2) hf hs rfl rfl rfl rfl rfl rfl rfl rfl rfl el25 ti2 (h_p2_1.at hs) ?_; clear hf hs; intro a w hs hf
            have hs : St [] W w [.blk b1 34 [.int .i64 p0.Events, .slice A_p0_1 p0.Places.length c_p0_1], .blk b2 36 [.int .i64 p1.Period, .slice A_p1_1 p1.Starts.length c_p1_1], .row A5 n6 c7 2 1 (ints r3.1), .mat A1832 n1833 c1834 25 2 vs1836 ms1831, .row A2755 xs2757.length xs2757.length 2 1 (ints (cpy xs2757 p2))] := hs
            refine wpO_nil ?_
            refine wpL_nil (then_normal ?_)
            exact ⟨(cpy xs2757 p2), Option.some.inj hj2762, (cpy_len xs2757 p2).symm, (Fr.pick (Fr.pick (Fr.pick (Fr.pick (Fr.pick (Fr.pick (Fr.pick (Fr.pick (Fr.pick hf.none hf rfl) hf rfl) hf rfl) hf rfl) hf rfl) hf rfl) hf rfl) hf rfl) hf rfl), hs⟩
          · have hj2762 := bif_f hj2762 hb2763
            refine wpL_skip ?_
            refine wpL_nil (then_normal ?_)
            exact ⟨xs2757, Option.some.inj hj2762, rfl, (Fr.pick (Fr.pick (Fr.pick (Fr.pick (Fr.pick (Fr.pick (Fr.pick (Fr.pick (Fr.pick hf.none hf rfl) hf rfl) hf rfl) hf rfl) hf rfl) hf rfl) hf rfl) hf rfl) hf rfl), hs⟩
        · rintro a w ⟨xs2759, hr_, hn2760, hf, hs⟩
          subst hr_
          try dsimp only at hm2752
          refine wpL_seq ?_
          refine wpL_region ?_
          refine sY hf hs rfl rfl rfl (Y_move rfl rfl) ?_; clear hf; intro a hf
          refine sY hf hs rfl rfl rfl (Y_move rfl rfl) ?_; clear hf; intro a hf
          refine sOneM (j := 4) hf hs rfl rfl rfl rfl rfl rfl hn2760 el41 ti25 ?_; clear hf hs; intro a w A2764 hs hf
          have hs : St [] W w [.blk b1 34 [.int .i64 p0.Events, .slice A_p0_1 p0.Places.length c_p0_1], .blk b2 36 [.int .i64 p1.Period, .slice A_p1_1 p1.Starts.length c_p1_1], .row A5 n6 c7 2 1 (ints r3.1), .mat A1832 n1833 c1834 25 2 vs1836 ms1831, .mat A2764 1 1 25 2 ([.slice A2755 xs2759.length xs2757.length]) ([xs2759])] := hs
          obtain ⟨ms2768, ha2769, hm2752⟩ := bind_some hm2752
          refine sAppendM (i := 3) (j := 4) hf hs rfl rfl rfl rfl rfl rfl hn1835 rfl (by decide) rfl rfl (by decide) ha2769 el41 ti25 rfl ?_; clear hf hs; intro a w A2766 c2767 hs hf
          have hs : St [] W w [.blk b1 34 [.int .i64 p0.Events, .slice A_p0_1 p0.Places.length c_p0_1], .blk b2 36 [.int .i64 p1.Period, .slice A_p1_1 p1.Starts.length c_p1_1], .row A5 n6 c7 2 1 (ints r3.1), .mat A2766 ms2768.length c2767 25 2 (vs1836 ++ ([.slice A2755 xs2759.length xs2757.length])) ms2768] := hs
          obtain ⟨hq2770, hv2771⟩ := hs.appended (i := 3) rfl ha2769
          refine sY hf hs rfl rfl rfl (Y_assign rfl rfl) ?_; clear hf; intro a hf
          refine wpO_nil ?_
          refine wpL_seq ?_
          refine wpL_region ?_
          refine sY hf hs rfl rfl rfl (Y_move rfl rfl) ?_; clear hf; intro a hf
          refine sY hf hs rfl rfl rfl (Y_lenH rfl rfl el25 hn8) ?_; clear hf; intro a hf
          refine sY hf hs rfl rfl rfl (Y_move rfl rfl) ?_; clear hf; intro a hf
          refine wpO_nil ?_
          obtain ⟨r3439, hl3440, hm2752⟩ := bind_some hm2752
          refine wpL_block (fun a w => ∃ ms3437 : List (List Int), ms3437 = r3439 ∧ ms2768.length = ms3437.length ∧ Fr a 95 [(2, .slice A_p2_1 p2.length c_p2_1), (4, .pointer (some ⟨b1, 0, none⟩)), (5, .pointer (some ⟨b2, 0, none⟩)), (9, .slice A5 n6 c7), (11, .slice A2766 ms2768.length c2767), (24, .int .i64 p3), (25, .int .i64 x1837)] ∧ St [] W w [.blk b1 34 [.int .i64 p0.Events, .slice A_p0_1 p0.Places.length c_p0_1], .blk b2 36 [.int .i64 p1.Period, .slice A_p1_1 p1.Starts.length c_p1_1], .row A5 n6 c7 2 1 (ints r3.1), .mat A2766 ms2768.length c2767 25 2 (vs1836 ++ ([.slice A2755 xs2759.length xs2757.length])) ms3437]) ?_ ?_
          · refine wpL_loop (fun n a w => ∃ ms3213 : List (List Int), ∃ x3215 : Int, ∃ xs3216 : List Int, impl_delayTable_L20 F p0 p1 r3 ms1831 x1837 n ms3213 x3215 xs3216 = some r3439 ∧ ms2768.length = ms3213.length ∧ xs2757.length = xs3216.length ∧ ms3213[(ms1831.length : Int).toNat]? = some xs3216 ∧ (vs1836 ++ ([.slice A2755 xs2759.length xs2757.length]))[(ms1831.length : Int).toNat]? = some (Value.slice A2755 xs3216.length xs2757.length) ∧ Fr a 95 [(2, .slice A_p2_1 p2.length c_p2_1), (4, .pointer (some ⟨b1, 0, none⟩)), (5, .pointer (some ⟨b2, 0, none⟩)), (9, .slice A5 n6 c7), (11, .slice A2766 ms2768.length c2767), (12, .int .i64 x1837), (13, .slice A2755 xs2757.length xs2757.length), (24, .int .i64 p3), (25, .int .i64 x1837), (40, .slice A5 n6 c7), (41, .int .i64 (r3.1.length : Int)), (42, .int .i64 x3215)] ∧ St [] W w [.blk b1 34 [.int .i64 p0.Events, .slice A_p0_1 p0.Places.length c_p0_1], .blk b2 36 [.int .i64 p1.Period, .slice A_p1_1 p1.Starts.length c_p1_1], .row A5 n6 c7 2 1 (ints r3.1), .mat A2766 ms2768.length c2767 25 2 (vs1836 ++ ([.slice A2755 xs2759.length xs2757.length])) ms3213]) F ?_ ?_ ?_
            · exact ⟨ms2768, 0, xs2759, hl3440, rfl, hn2760, hq2770, hv2771, (Fr.pick (Fr.pick (Fr.pick (Fr.pick (Fr.pick (Fr.pick (Fr.pick (Fr.pick (Fr.pick (Fr.pick (Fr.pick (Fr.pick hf.none hf rfl) hf rfl) hf rfl) hf rfl) hf rfl) hf rfl) hf rfl) hf rfl) hf rfl) hf rfl) hf rfl) hf rfl), hs⟩
            · rintro a w ⟨ms3213, x3215, xs3216, h0_, -, -, -, -, -, -⟩; simp [impl_delayTable_L20] at h0_
            · rintro n3442 a w ⟨ms3213, x3215, xs3216, hm3441, hn3214, hn3217, hq3218, hv3219, hf, hs⟩
              rw [impl_delayTable_L20] at hm3441
              refine wpL_seq ?_
              refine wpL_region ?_
              refine sY hf hs rfl rfl rfl (Y_lss rfl rfl rfl) ?_; clear hf; intro a hf
              refine wpO_nil ?_
              refine wpL_seq ?_
              refine wpL_cond hf rfl (fun hb3443 => ?_) (fun hb3443 => ?_)
              · have hm3441 := bif_t hm3441 hb3443
                refine wpL_skip ?_
                refine wpL_seq ?_
                refine wpL_block0 ?_
                refine wpL_seq ?_
                refine wpL_region ?_
                obtain ⟨q3444, hi3445, hm3441⟩ := bind_some hm3441
                obtain ⟨hi3445a, hi3445b, hi3445q⟩ := idx_some hi3445
                refine sY hf hs rfl rfl rfl (Y_index rfl rfl rfl el25 ti2 (Rd.isAt (hs.rd (i := 2) rfl) (at1 (ints_at hi3445q))) hi3445a (ltn hn8 hi3445b)) ?_; clear hf; intro a hf
                refine sY hf hs rfl rfl rfl (Y_load_rd rfl rfl (fun w hs => hs.rd (i := 2) rfl) (at1 (ints_at hi3445q)) ag2) ?_; clear hf; intro a hf
                refine sY hf hs rfl rfl rfl (Y_assign rfl rfl) ?_; clear hf; intro a hf
                refine wpO_nil ?_
                refine wpL_seq ?_
                refine wpL_region ?_
                refine sY hf hs rfl rfl rfl (Y_load_blkS rfl rfl (i := 0) rfl ag34 ti34 rfl) ?_; clear hf; intro a hf
                refine sY hf hs rfl rfl rfl (Y_load_blkS rfl rfl (i := 1) rfl ag36 ti36 rfl) ?_; clear hf; intro a hf
                obtain ⟨r3446, hc3447, hm3441⟩ := bind_some hm3441
                refine sCall hf rfl rfl rfl rfl (cap := []) rfl rfl en66 (impl_slacksOf_ok F p0 A_p0_1 p0.Places.length c_p0_1 rfl p1 A_p1_1 p1.Starts.length c_p1_1 rfl _ _ hc3447 (h_p0_1.at hs) (h_p1_1.at hs)) ?_; clear hf
                rintro _ w ⟨A3448, n3449, c3450, rfl, hn3451, hs1⟩ a hf
                have hs : St [] W w [.blk b1 34 [.int .i64 p0.Events, .slice A_p0_1 p0.Places.length c_p0_1], .blk b2 36 [.int .i64 p1.Period, .slice A_p1_1 p1.Starts.length c_p1_1], .row A5 n6 c7 2 1 (ints r3.1), .mat A2766 ms2768.length c2767 25 2 (vs1836 ++ ([.slice A2755 xs2759.length xs2757.length])) ms3213, .row A3448 n3449 c3450 2 1 (ints r3446)] := hs.join hs1
                clear hs1
                refine sY hf hs rfl rfl rfl (Y_lenH rfl rfl el25 hn3451) ?_; clear hf; intro a hf
                refine sY hf hs rfl rfl rfl (Y_move rfl rfl) ?_; clear hf; intro a hf
                refine wpO_nil ?_
                obtain ⟨r3610, hl3611, hm3441⟩ := bind_some hm3441
                refine wpL_block (fun a w => ∃ ms3604 : List (List Int), ∃ xs3606 : List Int, (ms3604, xs3606) = r3610 ∧ ms2768.length = ms3604.length ∧ xs2757.length = xs3606.length ∧ ms3604[(ms1831.length : Int).toNat]? = some xs3606 ∧ (vs1836 ++ ([.slice A2755 xs2759.length xs2757.length]))[(ms1831.length : Int).toNat]? = some (Value.slice A2755 xs3606.length xs2757.length) ∧ Fr a 95 [(2, .slice A_p2_1 p2.length c_p2_1), (4, .pointer (some ⟨b1, 0, none⟩)), (5, .pointer (some ⟨b2, 0, none⟩)), (9, .slice A5 n6 c7), (11, .slice A2766 ms2768.length c2767), (12, .int .i64 x1837), (13, .slice A2755 xs2757.length xs2757.length), (24, .int .i64 p3), (25, .int .i64 x1837), (40, .slice A5 n6 c7), (41, .int .i64 (r3.1.length : Int)), (42, .int .i64 x3215)] ∧ St [] W w [.blk b1 34 [.int .i64 p0.Events, .slice A_p0_1 p0.Places.length c_p0_1], .blk b2 36 [.int .i64 p1.Period, .slice A_p1_1 p1.Starts.length c_p1_1], .row A5 n6 c7 2 1 (ints r3.1), .mat A2766 ms2768.length c2767 25 2 (vs1836 ++ ([.slice A2755 xs2759.length xs2757.length])) ms3604]) ?_ ?_
                · refine wpL_loop (fun n a w => ∃ ms3551 : List (List Int), ∃ x3553 : Int, ∃ xs3554 : List Int, impl_delayTable_L21 F p0 ms1831 x1837 q3444 r3446 n ms3551 x3553 xs3554 = some r3610 ∧ ms2768.length = ms3551.length ∧ xs2757.length = xs3554.length ∧ ms3551[(ms1831.length : Int).toNat]? = some xs3554 ∧ (vs1836 ++ ([.slice A2755 xs2759.length xs2757.length]))[(ms1831.length : Int).toNat]? = some (Value.slice A2755 xs3554.length xs2757.length) ∧ Fr a 95 [(2, .slice A_p2_1 p2.length c_p2_1), (4, .pointer (some ⟨b1, 0, none⟩)), (5, .pointer (some ⟨b2, 0, none⟩)), (9, .slice A5 n6 c7), (11, .slice A2766 ms2768.length c2767), (12, .int .i64 x1837), (13, .slice A2755 xs2757.length xs2757.length), (15, .int .i64 q3444), (24, .int .i64 p3), (25, .int .i64 x1837), (40, .slice A5 n6 c7), (41, .int .i64 (r3.1.length : Int)), (42, .int .i64 x3215), (48, .slice A3448 n3449 c3450), (49, .int .i64 (r3446.length : Int)), (50, .int .i64 x3553)] ∧ St [] W w [.blk b1 34 [.int .i64 p0.Events, .slice A_p0_1 p0.Places.length c_p0_1], .blk b2 36 [.int .i64 p1.Period, .slice A_p1_1 p1.Starts.length c_p1_1], .row A5 n6 c7 2 1 (ints r3.1), .mat A2766 ms2768.length c2767 25 2 (vs1836 ++ ([.slice A2755 xs2759.length xs2757.length])) ms3551, .row A3448 n3449 c3450 2 1 (ints r3446)]) F ?_ ?_ ?_
                  · exact ⟨ms3213, 0, xs3216, hl3611, hn3214, hn3217, hq3218, hv3219, (Fr.pick (Fr.pick (Fr.pick (Fr.pick (Fr.pick (Fr.pick (Fr.pick (Fr.pick (Fr.pick (Fr.pick (Fr.pick (Fr.pick (Fr.pick (Fr.pick (Fr.pick (Fr.pick hf.none hf rfl) hf rfl) hf rfl) hf rfl) hf rfl) hf rfl) hf rfl) hf rfl) hf rfl) hf rfl) hf rfl) hf rfl) hf rfl) hf rfl) hf rfl) hf rfl), hs⟩
                  · rintro a w ⟨ms3551, x3553, xs3554, h0_, -, -, -, -, -, -⟩; simp [impl_delayTable_L21] at h0_
                  · rintro n3613 a w ⟨ms3551, x3553, xs3554, hm3612, hn3552, hn3555, hq3556, hv3557, hf, hs⟩
                    rw [impl_delayTable_L21] at hm3612
                    refine wpL_seq ?_
                    refine wpL_region ?_
                    refine sY hf hs rfl rfl rfl (Y_lss rfl rfl rfl) ?_; clear hf; intro a hf
                    refine wpO_nil ?_
                    refine wpL_seq ?_
                    refine wpL_cond hf rfl (fun hb3614 => ?_) (fun hb3614 => ?_)
                    · have hm3612 := bif_t hm3612 hb3614
                      refine wpL_skip ?_
                      refine wpL_seq ?_
                      refine wpL_block0 ?_
                      refine wpL_seq ?_
                      refine wpL_region ?_
                      refine sY hf hs rfl rfl rfl (Y_move rfl rfl) ?_; clear hf; intro a hf
                      obtain ⟨q3615, hi3616, hm3612⟩ := bind_some hm3612
                      obtain ⟨hi3616a, hi3616b, hi3616q⟩ := idx_some hi3616
                      refine sY hf hs rfl rfl rfl (Y_index rfl rfl rfl el25 ti2 (Rd.isAt (hs.rd (i := 4) rfl) (at1 (ints_at hi3616q))) hi3616a (ltn hn3451 hi3616b)) ?_; clear hf; intro a hf
                      refine sY hf hs rfl rfl rfl (Y_load_rd rfl rfl (fun w hs => hs.rd (i := 4) rfl) (at1 (ints_at hi3616q)) ag2) ?_; clear hf; intro a hf
                      refine sY hf hs rfl rfl rfl (Y_assign rfl rfl) ?_; clear hf; intro a hf
                      refine sY hf hs rfl rfl rfl (Y_assign rfl rfl) ?_; clear hf; intro a hf
                      refine wpO_nil ?_
                      refine wpL_seq ?_
                      refine wpL_region ?_
                      refine sY hf hs rfl rfl rfl (Y_fieldAddr rfl rfl fo34_1) ?_; clear hf; intro a hf
                      refine sY hf hs rfl rfl rfl (Y_load_blk rfl rfl (i := 0) rfl rfl ag32) ?_; clear hf; intro a hf
                      refine sY hf hs rfl rfl rfl (Y_move rfl rfl) ?_; clear hf; intro a hf
                      obtain ⟨q3617, hi3618, hm3612⟩ := bind_some hm3612
                      obtain ⟨hi3618a, hi3618b, hi3618q⟩ := idx_some hi3618
                      refine sY hf hs rfl rfl rfl (Y_index rfl rfl rfl el32 ti71 (Rd.isAt (h_p0_1.at hs) (recs_at (s := 4) GPlace.len hi3618q (j := 0) rfl)) hi3618a hi3618b) ?_; clear hf; intro a hf
                      refine sY hf hs rfl rfl rfl (Y_load_rdS rfl rfl (us := [.int .i64 q3617.From, .int .i64 q3617.To, .int .i64 q3617.Delay, .int .i64 q3617.Tokens]) (fun w hs => h_p0_1.at hs) (fun j u hj => recs_at (s := 4) GPlace.len hi3618q hj) (Nat.succ_pos _) ag71 ti71 rfl) ?_; clear hf; intro a hf
                      refine sAlloc hf hs rfl rfl rfl rfl ti71 ?_; clear hf hs; intro a w b3619 hs hf
                      have hs : St [] W w [.blk b1 34 [.int .i64 p0.Events, .slice A_p0_1 p0.Places.length c_p0_1], .blk b2 36 [.int .i64 p1.Period, .slice A_p1_1 p1.Starts.length c_p1_1], .row A5 n6 c7 2 1 (ints r3.1), .mat A2766 ms2768.length c2767 25 2 (vs1836 ++ ([.slice A2755 xs2759.length xs2757.length])) ms3551, .row A3448 n3449 c3450 2 1 (ints r3446), .blk b3619 71 [.int .i64 0, .int .i64 0, .int .i64 0, .int .i64 0]] := hs
                      refine sStore (i := 5) (us := [.int .i64 q3617.From, .int .i64 q3617.To, .int .i64 q3617.Delay, .int .i64 q3617.Tokens]) hf hs rfl rfl rfl rfl rfl rfl ti71 rfl rfl rfl (Nat.le_of_ble_eq_true rfl) rfl ?_; clear hs; intro w hs
                      have hs : St [] W w [.blk b1 34 [.int .i64 p0.Events, .slice A_p0_1 p0.Places.length c_p0_1], .blk b2 36 [.int .i64 p1.Period, .slice A_p1_1 p1.Starts.length c_p1_1], .row A5 n6 c7 2 1 (ints r3.1), .mat A2766 ms2768.length c2767 25 2 (vs1836 ++ ([.slice A2755 xs2759.length xs2757.length])) ms3551, .row A3448 n3449 c3450 2 1 (ints r3446), .blk b3619 71 [.int .i64 q3617.From, .int .i64 q3617.To, .int .i64 q3617.Delay, .int .i64 q3617.Tokens]] := hs
                      refine wpO_nil ?_
                      refine wpL_seq ?_
                      obtain ⟨r3622, hj3623, hm3612⟩ := bind_some hm3612
                      refine wpL_cut (fun a w => ∃ b3621 : Bool, b3621 = r3622 ∧ Fr a 95 [(2, .slice A_p2_1 p2.length c_p2_1), (4, .pointer (some ⟨b1, 0, none⟩)), (5, .pointer (some ⟨b2, 0, none⟩)), (9, .slice A5 n6 c7), (11, .slice A2766 ms2768.length c2767), (12, .int .i64 x1837), (13, .slice A2755 xs2757.length xs2757.length), (15, .int .i64 q3444), (17, .int .i64 q3615), (18, .pointer (some ⟨b3619, 0, none⟩)), (24, .int .i64 p3), (25, .int .i64 x1837), (40, .slice A5 n6 c7), (41, .int .i64 (r3.1.length : Int)), (42, .int .i64 x3215), (48, .slice A3448 n3449 c3450), (49, .int .i64 (r3446.length : Int)), (50, .int .i64 x3553), (69, .bool b3621)] ∧ St [] W w [.blk b1 34 [.int .i64 p0.Events, .slice A_p0_1 p0.Places.length c_p0_1], .blk b2 36 [.int .i64 p1.Period, .slice A_p1_1 p1.Starts.length c_p1_1], .row A5 n6 c7 2 1 (ints r3.1), .mat A2766 ms2768.length c2767 25 2 (vs1836 ++ ([.slice A2755 xs2759.length xs2757.length])) ms3551, .blk b3619 71 [.int .i64 q3617.From, .int .i64 q3617.To, .int .i64 q3617.Delay, .int .i64 q3617.Tokens], .row A3448 n3449 c3450 2 1 (ints r3446)]) ?_ ?_
                      · refine wpL_region ?_
                        refine sY hf hs rfl rfl rfl (Y_fieldAddr rfl rfl fo71_1) ?_; clear hf; intro a hf
                        refine sY hf hs rfl rfl rfl (Y_load_blk rfl rfl (i := 5) rfl rfl ag2) ?_; clear hf; intro a hf
                        refine sY hf hs rfl rfl rfl (Y_move rfl rfl) ?_; clear hf; intro a hf
                        refine sY hf hs rfl rfl rfl (Y_eql rfl rfl rfl) ?_; clear hf; intro a hf
                        refine sY hf hs rfl rfl rfl (Y_move rfl rfl) ?_; clear hf; intro a hf
                        refine bsplit (q3617.To == q3444) (fun hb3624 => ?_) (fun hb3624 => ?_)
                        · have hj3623 := bif_t hj3623 hb3624
                          refine sYg hf hs rfl rfl rfl (congrArg (fun b => some (Value.bool b)) hb3624) rfl rfl rfl (Y_move rfl rfl) ?_; clear hf; intro a hf
                          refine sYg hf hs rfl rfl rfl (congrArg (fun b => some (Value.bool b)) hb3624) rfl rfl rfl (Y_fieldAddr rfl rfl fo71_3) ?_; clear hf; intro a hf
                          refine sYg hf hs rfl rfl rfl (congrArg (fun b => some (Value.bool b)) hb3624) rfl rfl rfl (Y_load_blk rfl rfl (i := 5) rfl rfl ag2) ?_; clear hf; intro a hf
                          refine sYg hf hs rfl rfl rfl (congrArg (fun b => some (Value.bool b)) hb3624) rfl rfl rfl (Y_geq rfl rfl rfl) ?_; clear hf; intro a hf
                          refine sY hf hs rfl rfl rfl (Y_pickT rfl (congrArg (fun b => some (Value.bool b)) hb3624) rfl) ?_; clear hf; intro a hf
                          refine wpO_nil ?_
                          refine wpL_nil (then_normal ?_)
                          exact ⟨(decide (q3617.Tokens ≤ x1837)), Option.some.inj hj3623, (Fr.pick (Fr.pick (Fr.pick (Fr.pick (Fr.pick (Fr.pick (Fr.pick (Fr.pick (Fr.pick (Fr.pick (Fr.pick (Fr.pick (Fr.pick (Fr.pick (Fr.pick (Fr.pick (Fr.pick (Fr.pick (Fr.pick hf.none hf rfl) hf rfl) hf rfl) hf rfl) hf rfl) hf rfl) hf rfl) hf rfl) hf rfl) hf rfl) hf rfl) hf rfl) hf rfl) hf rfl) hf rfl) hf rfl) hf rfl) hf rfl) hf rfl), hs.sel [0, 1, 2, 3, 5, 4] (by decide)⟩
                        · have hj3623 := bif_f hj3623 hb3624
                          refine sNo hf rfl rfl rfl (congrArg (fun b => some (Value.bool b)) hb3624) rfl rfl rfl ?_; clear hf; intro a hf
                          refine sNo hf rfl rfl rfl (congrArg (fun b => some (Value.bool b)) hb3624) rfl rfl rfl ?_; clear hf; intro a hf
                          refine sNo hf rfl rfl rfl (congrArg (fun b => some (Value.bool b)) hb3624) rfl rfl rfl ?_; clear hf; intro a hf
                          refine sNo hf rfl rfl rfl (congrArg (fun b => some (Value.bool b)) hb3624) rfl rfl rfl ?_; clear hf; intro a hf
                          refine sY hf hs rfl rfl rfl (Y_pickF rfl (congrArg (fun b => some (Value.bool b)) hb3624) rfl) ?_; clear hf; intro a hf
                          refine wpO_nil ?_
                          refine wpL_nil (then_normal ?_)
                          exact ⟨false, Option.some.inj hj3623, (Fr.pick (Fr.pick (Fr.pick (Fr.pick (Fr.pick (Fr.pick (Fr.pick (Fr.pick (Fr.pick (Fr.pick (Fr.pick (Fr.pick (Fr.pick (Fr.pick (Fr.pick (Fr.pick (Fr.pick (Fr.pick (Fr.pick hf.none hf rfl) hf rfl) hf rfl) hf rfl) hf rfl) hf rfl) hf rfl) hf rfl) hf rfl) hf rfl) hf rfl) hf rfl) hf rfl) hf rfl) hf rfl) hf rfl) hf rfl) hf rfl) hf rfl), hs.sel [0, 1, 2, 3, 5, 4] (by decide)⟩
                      · rintro a w ⟨b3621, hr_, hf, hs⟩
                        subst hr_
                        try dsimp only at hm3612
                        refine wpL_cond hf rfl (fun hb3625 => ?_) (fun hb3625 => ?_)
                        · have hm3612 := bif_t hm3612 hb3625
                          refine wpL_drawG [.blk b1 34 [.int .i64 p0.Events, .slice A_p0_1 p0.Places.length c_p0_1], .blk b2 36 [.int .i64 p1.Period, .slice A_p1_1 p1.Starts.length c_p1_1], .row A5 n6 c7 2 1 (ints r3.1), .mat A2766 ms2768.length c2767 25 2 (vs1836 ++ ([.slice A2755 xs2759.length xs2757.length])) ms3551, .blk b3619 71 [.int .i64 q3617.From, .int .i64 q3617.To, .int .i64 q3617.Delay, .int .i64 q3617.Tokens], .row A3448 n3449 c3450 2 1 (ints r3446)] 21 (by kernel_rfl) hs ?_; clear hs; intro w hs
                          have hs0 : St [] W w [.blk b1 34 [.int .i64 p0.Events, .slice A_p0_1 p0.Places.length c_p0_1], .blk b2 36 [.int .i64 p1.Period, .slice A_p1_1 p1.Starts.length c_p1_1], .row A5 n6 c7 2 1 (ints r3.1), .mat A2766 ms2768.length c2767 25 2 (vs1836 ++ ([.slice A2755 xs2759.length xs2757.length])) ms3551, .blk b3619 71 [.int .i64 q3617.From, .int .i64 q3617.To, .int .i64 q3617.Delay, .int .i64 q3617.Tokens], .row A3448 n3449 c3450 2 1 (ints r3446)] := hs
                          refine gY (i := 0) [] rfl (by kernel_rfl) (by kernel_rfl) hf hs0 rfl rfl rfl (Y_move rfl rfl) ?_; clear hf; intro a hf
                          refine gY (i := 1) [] rfl (by kernel_rfl) (by kernel_rfl) hf hs0 rfl rfl rfl (Y_move rfl rfl) ?_; clear hf; intro a hf
                          refine gY (i := 2) [] rfl (by kernel_rfl) (by kernel_rfl) hf hs0 rfl rfl rfl (Y_move rfl rfl) ?_; clear hf; intro a hf
                          refine gY (i := 3) [] rfl (by kernel_rfl) (by kernel_rfl) hf hs0 rfl rfl rfl (Y_move rfl rfl) ?_; clear hf; intro a hf
                          obtain ⟨q3643, hi3644, hm3612⟩ := bind_some hm3612
                          obtain ⟨hi3644a, hi3644b, hi3644q⟩ := idx_some hi3644
                          refine gY (i := 4) [] rfl (by kernel_rfl) (by kernel_rfl) hf hs0 rfl rfl rfl (Y_index rfl rfl rfl el25 ti2 (Rd.isAt (hs0.rdRow (i := 3) rfl ⟨hq3556, hv3557⟩) (at1 (ints_at hi3644q))) hi3644a (ltn hn3555 hi3644b)) ?_; clear hf; intro a hf
                          refine gY (i := 5) [] rfl (by kernel_rfl) (by kernel_rfl) hf hs0 rfl rfl rfl (Y_load_rd rfl rfl (fun w hs => hs.rdRow (i := 3) rfl ⟨hq3556, hv3557⟩) (at1 (ints_at hi3644q)) ag2) ?_; clear hf; intro a hf
                          refine gY (i := 6) [] rfl (by kernel_rfl) (by kernel_rfl) hf hs0 rfl rfl rfl (Y_move rfl rfl) ?_; clear hf; intro a hf
                          refine gY (i := 7) [] rfl (by kernel_rfl) (by kernel_rfl) hf hs0 rfl rfl rfl (Y_move rfl rfl) ?_; clear hf; intro a hf
                          refine gY (i := 8) [] rfl (by kernel_rfl) (by kernel_rfl) hf hs0 rfl rfl rfl (Y_fieldAddr rfl rfl fo71_3) ?_; clear hf; intro a hf
                          refine gY (i := 9) [] rfl (by kernel_rfl) (by kernel_rfl) hf hs0 rfl rfl rfl (Y_load_blk rfl rfl (i := 4) rfl rfl ag2) ?_; clear hf; intro a hf
                          refine gY (i := 10) [] rfl (by kernel_rfl) (by kernel_rfl) hf hs0 rfl rfl rfl (Y_sub rfl rfl rfl) ?_; clear hf; intro a hf
                          obtain ⟨q3645, hi3646, hm3612⟩ := bind_some hm3612
                          obtain ⟨hi3646a, hi3646b, hi3646q⟩ := idx_some hi3646
                          obtain ⟨A3647, c3648, hv3649⟩ := hs0.matRow (i := 3) rfl hi3646q
                          refine gY (i := 11) [] rfl (by kernel_rfl) (by kernel_rfl) hf hs0 rfl rfl rfl (Y_index rfl rfl rfl el41 ti25 (Rd.isAt (hs0.rdV (i := 3) rfl) hv3649) hi3646a (ltn hn3552 hi3646b)) ?_; clear hf; intro a hf
                          refine gY (i := 12) [] rfl (by kernel_rfl) (by kernel_rfl) hf hs0 rfl rfl rfl (Y_load_rd rfl rfl (fun w hs => hs.rdV (i := 3) rfl) (at1 hv3649) ag25) ?_; clear hf; intro a hf
                          refine gY (i := 13) [] rfl (by kernel_rfl) (by kernel_rfl) hf hs0 rfl rfl rfl (Y_fieldAddr rfl rfl fo71_0) ?_; clear hf; intro a hf
                          refine gY (i := 14) [] rfl (by kernel_rfl) (by kernel_rfl) hf hs0 rfl rfl rfl (Y_load_blk rfl rfl (i := 4) rfl rfl ag2) ?_; clear hf; intro a hf
                          obtain ⟨q3650, hi3651, hm3612⟩ := bind_some hm3612
                          obtain ⟨hi3651a, hi3651b, hi3651q⟩ := idx_some hi3651
                          refine gY (i := 15) [] rfl (by kernel_rfl) (by kernel_rfl) hf hs0 rfl rfl rfl (Y_index rfl rfl rfl el25 ti2 (Rd.isAt (hs0.rdRow (i := 3) rfl ⟨hi3646q, hv3649⟩) (at1 (ints_at hi3651q))) hi3651a hi3651b) ?_; clear hf; intro a hf
                          refine gY (i := 16) [] rfl (by kernel_rfl) (by kernel_rfl) hf hs0 rfl rfl rfl (Y_load_rd rfl rfl (fun w hs => hs.rdRow (i := 3) rfl ⟨hi3646q, hv3649⟩) (at1 (ints_at hi3651q)) ag2) ?_; clear hf; intro a hf
                          refine gY (i := 17) [] rfl (by kernel_rfl) (by kernel_rfl) hf hs0 rfl rfl rfl (Y_move rfl rfl) ?_; clear hf; intro a hf
                          refine gY (i := 18) [] rfl (by kernel_rfl) (by kernel_rfl) hf hs0 rfl rfl rfl (Y_sub rfl rfl rfl) ?_; clear hf; intro a hf
                          refine gY (i := 19) [] rfl (by kernel_rfl) (by kernel_rfl) hf hs0 rfl rfl rfl (Y_max rfl rfl rfl) ?_; clear hf; intro a hf
                          obtain ⟨q3652, hi3653, hm3612⟩ := bind_some hm3612
                          obtain ⟨hi3653a, hi3653b, hi3653q⟩ := idx_some hi3653
                          refine gY (i := 20) [] rfl (by kernel_rfl) (by kernel_rfl) hf hs0 rfl rfl rfl (Y_index rfl rfl rfl el25 ti2 (Rd.isAt (hs0.rdRow (i := 3) rfl ⟨hq3556, hv3557⟩) (at1 (ints_at hi3653q))) hi3653a (ltn hn3555 hi3653b)) ?_; clear hf; intro a hf
                          refine gRun (i := 21) rfl (by kernel_rfl) ?_
                          obtain ⟨xs3654, hu3656, hm3612⟩ := bind_some hm3612
                          obtain ⟨ms3655, hu3657, hm3612⟩ := bind_some hm3612
                          refine sStoreM (i := 3) (k := (ms1831.length : Int)) hf hs rfl rfl rfl rfl rfl rfl hq3556 hv3557 rfl hu3656 hu3657 ti2 ?_; clear hs; intro w hs
                          obtain ⟨hq3658, hv3659⟩ := rowUpd hu3656 hu3657 hv3557
                          have hs : St [] W w [.blk b1 34 [.int .i64 p0.Events, .slice A_p0_1 p0.Places.length c_p0_1], .blk b2 36 [.int .i64 p1.Period, .slice A_p1_1 p1.Starts.length c_p1_1], .row A5 n6 c7 2 1 (ints r3.1), .mat A2766 ms2768.length c2767 25 2 (vs1836 ++ ([.slice A2755 xs2759.length xs2757.length])) ms3655, .blk b3619 71 [.int .i64 q3617.From, .int .i64 q3617.To, .int .i64 q3617.Delay, .int .i64 q3617.Tokens], .row A3448 n3449 c3450 2 1 (ints r3446)] := hs
                          refine wpO_nil ⟨Or.inl rfl, ?_⟩
                          refine gDone (by kernel_rfl) ?_
                          clear hs0
                          refine wpL_nil (Qb_normal ?_)
                          refine wpL_region ?_
                          refine sY hf hs rfl rfl rfl (Y_add rfl rfl rfl) ?_; clear hf; intro a hf
                          refine sY hf hs rfl rfl rfl (Y_move rfl rfl) ?_; clear hf; intro a hf
                          refine wpO_nil ?_
                          refine wpL_nil (Ql_normal ?_)
                          exact ⟨ms3655, (IntKind.i64.wrap (x3553 + 1)), xs3654, hm3612, ((hn3552).trans (upd_len hu3657).symm), ((hn3555).trans (upd_len hu3656).symm), hq3658, hv3659, (Fr.pick (Fr.pick (Fr.pick (Fr.pick (Fr.pick (Fr.pick (Fr.pick (Fr.pick (Fr.pick (Fr.pick (Fr.pick (Fr.pick (Fr.pick (Fr.pick (Fr.pick (Fr.pick hf.none hf rfl) hf rfl) hf rfl) hf rfl) hf rfl) hf rfl) hf rfl) hf rfl) hf rfl) hf rfl) hf rfl) hf rfl) hf rfl) hf rfl) hf rfl) hf rfl), hs.sel [0, 1, 2, 3, 5] (by decide)⟩
                        · have hm3612 := bif_f hm3612 hb3625
                          refine wpL_skip ?_
                          refine wpL_nil (Qb_normal ?_)
                          refine wpL_region ?_
                          refine sY hf hs rfl rfl rfl (Y_add rfl rfl rfl) ?_; clear hf; intro a hf
                          refine sY hf hs rfl rfl rfl (Y_move rfl rfl) ?_; clear hf; intro a hf
                          refine wpO_nil ?_
                          refine wpL_nil (Ql_normal ?_)
                          exact ⟨ms3551, (IntKind.i64.wrap (x3553 + 1)), xs3554, hm3612, hn3552, hn3555, hq3556, hv3557, (Fr.pick (Fr.pick (Fr.pick (Fr.pick (Fr.pick (Fr.pick (Fr.pick (Fr.pick (Fr.pick (Fr.pick (Fr.pick (Fr.pick (Fr.pick (Fr.pick (Fr.pick (Fr.pick hf.none hf rfl) hf rfl) hf rfl) hf rfl) hf rfl) hf rfl) hf rfl) hf rfl) hf rfl) hf rfl) hf rfl) hf rfl) hf rfl) hf rfl) hf rfl) hf rfl), hs.sel [0, 1, 2, 3, 5] (by decide)⟩
                    · have hm3612 := bif_f hm3612 hb3614
                      refine wpL_exit (Ql_exit (Qb_exit ?_))
                      exact ⟨ms3551, xs3554, Option.some.inj hm3612, hn3552, hn3555, hq3556, hv3557, (Fr.pick (Fr.pick (Fr.pick (Fr.pick (Fr.pick (Fr.pick (Fr.pick (Fr.pick (Fr.pick (Fr.pick (Fr.pick (Fr.pick hf.none hf rfl) hf rfl) hf rfl) hf rfl) hf rfl) hf rfl) hf rfl) hf rfl) hf rfl) hf rfl) hf rfl) hf rfl), hs.sel [0, 1, 2, 3] (by decide)⟩
                · rintro a w ⟨ms3604, xs3606, hr_, hn3605, hn3607, hq3608, hv3609, hf, hs⟩
                  subst hr_
                  try dsimp only at hm3441
                  refine wpL_nil (Qb_normal ?_)
                  refine wpL_region ?_
                  refine sY hf hs rfl rfl rfl (Y_add rfl rfl rfl) ?_; clear hf; intro a hf
                  refine sY hf hs rfl rfl rfl (Y_move rfl rfl) ?_; clear hf; intro a hf
                  refine wpO_nil ?_
                  refine wpL_nil (Ql_normal ?_)
                  exact ⟨ms3604, (IntKind.i64.wrap (x3215 + 1)), xs3606, hm3441, hn3605, hn3607, hq3608, hv3609, (Fr.pick (Fr.pick (Fr.pick (Fr.pick (Fr.pick (Fr.pick (Fr.pick (Fr.pick (Fr.pick (Fr.pick (Fr.pick (Fr.pick hf.none hf rfl) hf rfl) hf rfl) hf rfl) hf rfl) hf rfl) hf rfl) hf rfl) hf rfl) hf rfl) hf rfl) hf rfl), hs⟩
              · have hm3441 := bif_f hm3441 hb3443
                refine wpL_exit (Ql_exit (Qb_exit ?_))
                exact ⟨ms3213, Option.some.inj hm3441, hn3214, (Fr.pick (Fr.pick (Fr.pick (Fr.pick (Fr.pick (Fr.pick (Fr.pick hf.none hf rfl) hf rfl) hf rfl) hf rfl) hf rfl) hf rfl) hf rfl), hs⟩
          · rintro a w ⟨ms3437, hr_, hn3438, hf, hs⟩
            subst hr_
            try dsimp only at hm2752
            refine wpL_nil (Qb_normal ?_)
            refine wpL_region ?_
            refine sY hf hs rfl rfl rfl (Y_add rfl rfl rfl) ?_; clear hf; intro a hf
            refine sY hf hs rfl rfl rfl (Y_move rfl rfl) ?_; clear hf; intro a hf
            refine wpO_nil ?_
            refine wpL_nil (Ql_normal ?_)
            exact ⟨ms3437, (IntKind.i64.wrap (x1837 + 1)), A2766, ms2768.length, c2767, (vs1836 ++ ([.slice A2755 xs2759.length xs2757.length])), hm2752, hn3438, (Fr.pick (Fr.pick (Fr.pick (Fr.pick (Fr.pick (Fr.pick (Fr.pick hf.none hf rfl) hf rfl) hf rfl) hf rfl) hf rfl) hf rfl) hf rfl), hs⟩
      · have hm2752 := bif_f hm2752 hb2754
        refine wpL_exit (Ql_exit (Qb_exit ?_))
        exact ⟨ms1831, A1832, n1833, c1834, vs1836, Option.some.inj hm2752, hn1835, (Fr.pick hf.none hf rfl), hs.sel [3] (by decide)⟩
  · rintro a w ⟨ms2744, A2745, n2746, c2747, vs2749, hr_, hn2748, hf, hs⟩
    subst hr_
    try dsimp only at hm
    refine wpL_seq ?_
    refine wpL_region ?_
    refine sY hf hs rfl rfl rfl (Y_move rfl rfl) ?_; clear hf; intro a hf
    refine sY hf hs rfl rfl rfl (Y_assign rfl rfl) ?_; clear hf; intro a hf
    refine wpO_nil ?_
    obtain rfl := Option.some.inj hm
    refine wpL_ret (ret_tmp rfl hf rfl ?_)
    exact ⟨_, rfl, A2745, n2746, c2747, vs2749, rfl, hn2748, hs⟩

set_option maxRecDepth 100000 in
theorem impl_worstOf_ok (F : Nat) (p0_g : GEventGraph) (A_p0_g_1 : Option Addr) (n_p0_g_1 c_p0_g_1 : Nat) (hn_p0_g_1 : n_p0_g_1 = p0_g.Places.length) (p1_table : List (List Int)) (A_p1_table_1 : Option Addr) (n_p1_table_1 c_p1_table_1 : Nat) (hn_p1_table_1 : n_p1_table_1 = p1_table.length) (r : List Int) (W : World) (hm : impl_worstOf F p0_g p1_table = some r) (_h_p0_g_1 : Rd W A_p0_g_1 ((recs GPlace.cells) p0_g.Places)) (h_p1_table_1 : RdM W A_p1_table_1 p1_table) :
    Calls Try.prog 80 [.agg #[.int .i64 p0_g.Events, .slice A_p0_g_1 n_p0_g_1 c_p0_g_1], .slice A_p1_table_1 n_p1_table_1 c_p1_table_1].toArray W fun e w' => ∃ v, e = .returned v ∧ ∃ A249, ∃ n250, ∃ c251, v = .slice A249 n250 c251 ∧ n250 = r.length ∧ St [] W w' [.row A249 n250 c251 2 1 (ints r)] := by
  subst hn_p0_g_1
  subst hn_p1_table_1
  unfold impl_worstOf at hm
  refine Calls.enter (N := 38) Try.func80 rfl rfl rfl (fun a hf => ?_)
  have hs := St.start W
  obtain ⟨w, hw_⟩ : ∃ w, w = W := ⟨W, rfl⟩
  clear hw_ w
  refine wpL_seq ?_
  refine wpL_region ?_
  refine sBox hf hs rfl rfl rfl rfl rfl (cs := [.int .i64 p0_g.Events, .slice A_p0_g_1 p0_g.Places.length c_p0_g_1]) rfl ?_; clear hf hs; intro a w b1 hs hf
  have hs : St [] W w [.blk b1 34 [.int .i64 p0_g.Events, .slice A_p0_g_1 p0_g.Places.length c_p0_g_1]] := hs
  refine sY hf hs rfl rfl rfl (Y_assign rfl rfl) ?_; clear hf; intro a hf
  refine wpO_nil ?_
  refine wpL_seq ?_
  refine wpL_region ?_
  refine sY hf hs rfl rfl rfl (Y_fieldAddr rfl rfl fo34_0) ?_; clear hf; intro a hf
  refine sY hf hs rfl rfl rfl (Y_load_blk rfl rfl (i := 0) rfl rfl ag2) ?_; clear hf; intro a hf
  obtain ⟨xs4, hk3, hm⟩ := bind_some hm
  refine sMakeL (enc := ints) hf hs rfl rfl rfl rfl rfl hk3 el25 ti2 rfl ints_made ?_; clear hf hs; intro a w A2 hs hf
  have hs : St [] W w [.blk b1 34 [.int .i64 p0_g.Events, .slice A_p0_g_1 p0_g.Places.length c_p0_g_1], .row A2 xs4.length xs4.length 2 1 (ints xs4)] := hs
  refine sY hf hs rfl rfl rfl (Y_assign rfl rfl) ?_; clear hf; intro a hf
  refine wpO_nil ?_
  refine wpL_seq ?_
  refine wpL_seq ?_
  refine wpL_region ?_
  refine sY hf hs rfl rfl rfl (Y_move rfl rfl) ?_; clear hf; intro a hf
  refine sY hf hs rfl rfl rfl (Y_lenH rfl rfl el41 rfl) ?_; clear hf; intro a hf
  refine sY hf hs rfl rfl rfl (Y_move rfl rfl) ?_; clear hf; intro a hf
  refine wpO_nil ?_
  obtain ⟨r187, hl188, hm⟩ := bind_some hm
  refine wpL_block (fun a w => ∃ xs185 : List Int, xs185 = r187 ∧ xs4.length = xs185.length ∧ Fr a 38 [(5, .slice A2 xs4.length xs4.length)] ∧ St [] W w [.row A2 xs4.length xs4.length 2 1 (ints xs185)]) ?_ ?_
  · refine wpL_loop (fun n a w => ∃ xs124 : List Int, ∃ x126 : Int, impl_worstOf_L4 F p1_table n xs124 x126 = some r187 ∧ xs4.length = xs124.length ∧ Fr a 38 [(5, .slice A2 xs4.length xs4.length), (13, .slice A_p1_table_1 p1_table.length c_p1_table_1), (14, .int .i64 (p1_table.length : Int)), (15, .int .i64 x126)] ∧ St [] W w [.row A2 xs4.length xs4.length 2 1 (ints xs124)]) F ?_ ?_ ?_
    · exact ⟨xs4, 0, hl188, rfl, (Fr.pick (Fr.pick (Fr.pick (Fr.pick hf.none hf rfl) hf rfl) hf rfl) hf rfl), hs.sel [1] (by decide)⟩
    · rintro a w ⟨xs124, x126, h0_, -, -, -⟩; simp [impl_worstOf_L4] at h0_
    · rintro n190 a w ⟨xs124, x126, hm189, hn125, hf, hs⟩
      rw [impl_worstOf_L4] at hm189
      refine wpL_seq ?_
      refine wpL_region ?_
      refine sY hf hs rfl rfl rfl (Y_lss rfl rfl rfl) ?_; clear hf; intro a hf
      refine wpO_nil ?_
      refine wpL_seq ?_
      refine wpL_cond hf rfl (fun hb191 => ?_) (fun hb191 => ?_)
      · have hm189 := bif_t hm189 hb191
        refine wpL_skip ?_
        refine wpL_seq ?_
        refine wpL_block0 ?_
        refine wpL_seq ?_
        refine wpL_region ?_
        obtain ⟨q192, hi193, hm189⟩ := bind_some hm189
        obtain ⟨hi193a, hi193b, hi193q⟩ := idx_some hi193
        obtain ⟨vs194, hv195, hr196⟩ := id h_p1_table_1
        obtain ⟨A197, c198, hv199, hR200⟩ := hr196 _ _ hi193q
        refine sY hf hs rfl rfl rfl (Y_index rfl rfl rfl el41 ti25 (Rd.isAt hv195 hv199) hi193a hi193b) ?_; clear hf; intro a hf
        refine sY hf hs rfl rfl rfl (Y_load_rd rfl rfl (fun w hs => hv195.at hs) (at1 hv199) ag25) ?_; clear hf; intro a hf
        refine sY hf hs rfl rfl rfl (Y_assign rfl rfl) ?_; clear hf; intro a hf
        refine wpO_nil ?_
        refine wpL_seq ?_
        refine wpL_region ?_
        refine sY hf hs rfl rfl rfl (Y_move rfl rfl) ?_; clear hf; intro a hf
        refine sY hf hs rfl rfl rfl (Y_lenH rfl rfl el25 rfl) ?_; clear hf; intro a hf
        refine sY hf hs rfl rfl rfl (Y_move rfl rfl) ?_; clear hf; intro a hf
        refine wpO_nil ?_
        obtain ⟨r236, hl237, hm189⟩ := bind_some hm189
        refine wpL_block (fun a w => ∃ xs234 : List Int, xs234 = r236 ∧ xs4.length = xs234.length ∧ Fr a 38 [(5, .slice A2 xs4.length xs4.length), (13, .slice A_p1_table_1 p1_table.length c_p1_table_1), (14, .int .i64 (p1_table.length : Int)), (15, .int .i64 x126)] ∧ St [] W w [.row A2 xs4.length xs4.length 2 1 (ints xs234)]) ?_ ?_
        · refine wpL_loop (fun n a w => ∃ xs222 : List Int, ∃ x224 : Int, impl_worstOf_L5 F q192 n xs222 x224 = some r236 ∧ xs4.length = xs222.length ∧ Fr a 38 [(5, .slice A2 xs4.length xs4.length), (13, .slice A_p1_table_1 p1_table.length c_p1_table_1), (14, .int .i64 (p1_table.length : Int)), (15, .int .i64 x126), (19, .slice A197 q192.length c198), (20, .int .i64 (q192.length : Int)), (21, .int .i64 x224)] ∧ St [] W w [.row A2 xs4.length xs4.length 2 1 (ints xs222)]) F ?_ ?_ ?_
          · exact ⟨xs124, 0, hl237, hn125, (Fr.pick (Fr.pick (Fr.pick (Fr.pick (Fr.pick (Fr.pick (Fr.pick hf.none hf rfl) hf rfl) hf rfl) hf rfl) hf rfl) hf rfl) hf rfl), hs⟩
          · rintro a w ⟨xs222, x224, h0_, -, -, -⟩; simp [impl_worstOf_L5] at h0_
          · rintro n239 a w ⟨xs222, x224, hm238, hn223, hf, hs⟩
            rw [impl_worstOf_L5] at hm238
            refine wpL_seq ?_
            refine wpL_region ?_
            refine sY hf hs rfl rfl rfl (Y_lss rfl rfl rfl) ?_; clear hf; intro a hf
            refine wpO_nil ?_
            refine wpL_seq ?_
            refine wpL_cond hf rfl (fun hb240 => ?_) (fun hb240 => ?_)
            · have hm238 := bif_t hm238 hb240
              refine wpL_skip ?_
              refine wpL_seq ?_
              refine wpL_block0 ?_
              refine wpL_seq ?_
              refine wpL_region ?_
              refine sY hf hs rfl rfl rfl (Y_move rfl rfl) ?_; clear hf; intro a hf
              obtain ⟨q241, hi242, hm238⟩ := bind_some hm238
              obtain ⟨hi242a, hi242b, hi242q⟩ := idx_some hi242
              refine sY hf hs rfl rfl rfl (Y_index rfl rfl rfl el25 ti2 (Rd.isAt (hR200.at hs) (at1 (ints_at hi242q))) hi242a hi242b) ?_; clear hf; intro a hf
              refine sY hf hs rfl rfl rfl (Y_load_rd rfl rfl (fun w hs => hR200.at hs) (at1 (ints_at hi242q)) ag2) ?_; clear hf; intro a hf
              refine sY hf hs rfl rfl rfl (Y_assign rfl rfl) ?_; clear hf; intro a hf
              refine sY hf hs rfl rfl rfl (Y_assign rfl rfl) ?_; clear hf; intro a hf
              refine wpO_nil ?_
              refine wpL_region ?_
              refine sY hf hs rfl rfl rfl (Y_move rfl rfl) ?_; clear hf; intro a hf
              refine sY hf hs rfl rfl rfl (Y_move rfl rfl) ?_; clear hf; intro a hf
              refine sY hf hs rfl rfl rfl (Y_move rfl rfl) ?_; clear hf; intro a hf
              refine sY hf hs rfl rfl rfl (Y_move rfl rfl) ?_; clear hf; intro a hf
              obtain ⟨q243, hi244, hm238⟩ := bind_some hm238
              obtain ⟨hi244a, hi244b, hi244q⟩ := idx_some hi244
              refine sY hf hs rfl rfl rfl (Y_index rfl rfl rfl el25 ti2 (Rd.isAt (hs.rd (i := 0) rfl) (at1 (ints_at hi244q))) hi244a (ltn hn223 hi244b)) ?_; clear hf; intro a hf
              refine sY hf hs rfl rfl rfl (Y_load_rd rfl rfl (fun w hs => hs.rd (i := 0) rfl) (at1 (ints_at hi244q)) ag2) ?_; clear hf; intro a hf
              refine sY hf hs rfl rfl rfl (Y_move rfl rfl) ?_; clear hf; intro a hf
              refine sY hf hs rfl rfl rfl (Y_max rfl rfl rfl) ?_; clear hf; intro a hf
              obtain ⟨q245, hi246, hm238⟩ := bind_some hm238
              obtain ⟨hi246a, hi246b, hi246q⟩ := idx_some hi246
              refine sY hf hs rfl rfl rfl (Y_index rfl rfl rfl el25 ti2 (Rd.isAt (hs.rd (i := 0) rfl) (at1 (ints_at hi246q))) hi246a (ltn hn223 hi246b)) ?_; clear hf; intro a hf
              obtain ⟨xs247, hu248, hm238⟩ := bind_some hm238
              refine sStoreL (i := 0) (us := [.int .i64 (max q243 q241)]) (enc := ints) hf hs rfl rfl rfl rfl rfl rfl hn223 hu248 ti2 rfl rfl rfl rfl rfl ints_len1 (ints_set (max q243 q241)) ?_; clear hs; intro w hs
              have hs : St [] W w [.row A2 xs4.length xs4.length 2 1 (ints xs247)] := hs
              refine wpO_nil ?_
              refine wpL_nil (Qb_normal ?_)
              refine wpL_region ?_
              refine sY hf hs rfl rfl rfl (Y_add rfl rfl rfl) ?_; clear hf; intro a hf
              refine sY hf hs rfl rfl rfl (Y_move rfl rfl) ?_; clear hf; intro a hf
              refine wpO_nil ?_
              refine wpL_nil (Ql_normal ?_)
              exact ⟨xs247, (IntKind.i64.wrap (x224 + 1)), hm238, ((hn223).trans (upd_len hu248).symm), (Fr.pick (Fr.pick (Fr.pick (Fr.pick (Fr.pick (Fr.pick (Fr.pick hf.none hf rfl) hf rfl) hf rfl) hf rfl) hf rfl) hf rfl) hf rfl), hs⟩
            · have hm238 := bif_f hm238 hb240
              refine wpL_exit (Ql_exit (Qb_exit ?_))
              exact ⟨xs222, Option.some.inj hm238, hn223, (Fr.pick (Fr.pick (Fr.pick (Fr.pick hf.none hf rfl) hf rfl) hf rfl) hf rfl), hs⟩
        · rintro a w ⟨xs234, hr_, hn235, hf, hs⟩
          subst hr_
          try dsimp only at hm189
          refine wpL_nil (Qb_normal ?_)
          refine wpL_region ?_
          refine sY hf hs rfl rfl rfl (Y_add rfl rfl rfl) ?_; clear hf; intro a hf
          refine sY hf hs rfl rfl rfl (Y_move rfl rfl) ?_; clear hf; intro a hf
          refine wpO_nil ?_
          refine wpL_nil (Ql_normal ?_)
          exact ⟨xs234, (IntKind.i64.wrap (x126 + 1)), hm189, hn235, (Fr.pick (Fr.pick (Fr.pick (Fr.pick hf.none hf rfl) hf rfl) hf rfl) hf rfl), hs⟩
      · have hm189 := bif_f hm189 hb191
        refine wpL_exit (Ql_exit (Qb_exit ?_))
        exact ⟨xs124, Option.some.inj hm189, hn125, (Fr.pick hf.none hf rfl), hs⟩
  · rintro a w ⟨xs185, hr_, hn186, hf, hs⟩
    subst hr_
    try dsimp only at hm
    refine wpL_seq ?_
    refine wpL_region ?_
    refine sY hf hs rfl rfl rfl (Y_move rfl rfl) ?_; clear hf; intro a hf
    refine sY hf hs rfl rfl rfl (Y_assign rfl rfl) ?_; clear hf; intro a hf
    refine wpO_nil ?_
    obtain rfl := Option.some.inj hm
    refine wpL_ret (ret_tmp rfl hf rfl ?_)
    exact ⟨_, rfl, A2, xs4.length, xs4.length, rfl, hn186, hs⟩

set_option maxRecDepth 100000 in
theorem impl_DelayedEvents_ok (F : Nat) (p0_g : GEventGraph) (A_p0_g_1 : Option Addr) (n_p0_g_1 c_p0_g_1 : Nat) (hn_p0_g_1 : n_p0_g_1 = p0_g.Places.length) (p1_t : GTimetable) (A_p1_t_1 : Option Addr) (n_p1_t_1 c_p1_t_1 : Nat) (hn_p1_t_1 : n_p1_t_1 = p1_t.Starts.length) (p2_event : Int) (p3_by : Int) (r : List Int × Int) (W : World) (hm : impl_DelayedEvents F p0_g p1_t p2_event p3_by = some r) (h_p0_g_1 : Rd W A_p0_g_1 ((recs GPlace.cells) p0_g.Places)) (h_p1_t_1 : Rd W A_p1_t_1 (ints p1_t.Starts)) :
    Calls Try.prog 43 [.agg #[.int .i64 p0_g.Events, .slice A_p0_g_1 n_p0_g_1 c_p0_g_1], .agg #[.int .i64 p1_t.Period, .slice A_p1_t_1 n_p1_t_1 c_p1_t_1], .int .i64 p2_event, .int .i64 p3_by].toArray W fun e w' => ∃ v, e = .returned v ∧ ∃ A128, ∃ n129, ∃ c130, v = .tuple #[.slice A128 n129 c130, .int .i64 r.2] ∧ n129 = r.1.length ∧ St [] W w' [.row A128 n129 c130 2 1 (ints r.1)] := by
  subst hn_p0_g_1
  subst hn_p1_t_1
  unfold impl_DelayedEvents at hm
  refine Calls.enter (N := 63) Try.func43 rfl rfl rfl (fun a hf => ?_)
  have hs := St.start W
  obtain ⟨w, hw_⟩ : ∃ w, w = W := ⟨W, rfl⟩
  clear hw_ w
  refine wpL_seq ?_
  refine wpL_region ?_
  refine sBox hf hs rfl rfl rfl rfl rfl (cs := [.int .i64 p0_g.Events, .slice A_p0_g_1 p0_g.Places.length c_p0_g_1]) rfl ?_; clear hf hs; intro a w b1 hs hf
  have hs : St [] W w [.blk b1 34 [.int .i64 p0_g.Events, .slice A_p0_g_1 p0_g.Places.length c_p0_g_1]] := hs
  refine sBox hf hs rfl rfl rfl rfl rfl (cs := [.int .i64 p1_t.Period, .slice A_p1_t_1 p1_t.Starts.length c_p1_t_1]) rfl ?_; clear hf hs; intro a w b2 hs hf
  have hs : St [] W w [.blk b1 34 [.int .i64 p0_g.Events, .slice A_p0_g_1 p0_g.Places.length c_p0_g_1], .blk b2 36 [.int .i64 p1_t.Period, .slice A_p1_t_1 p1_t.Starts.length c_p1_t_1]] := hs
  refine sY hf hs rfl rfl rfl (Y_assign rfl rfl) ?_; clear hf; intro a hf
  refine sY hf hs rfl rfl rfl (Y_assign rfl rfl) ?_; clear hf; intro a hf
  refine wpO_nil ?_
  refine wpL_seq ?_
  refine wpL_region ?_
  refine sY hf hs rfl rfl rfl (Y_fieldAddr rfl rfl fo34_0) ?_; clear hf; intro a hf
  refine sY hf hs rfl rfl rfl (Y_load_blk rfl rfl (i := 0) rfl rfl ag2) ?_; clear hf; intro a hf
  refine sY hf hs rfl rfl rfl (Y_min rfl rfl rfl) ?_; clear hf; intro a hf
  refine sY hf hs rfl rfl rfl (Y_max rfl rfl rfl) ?_; clear hf; intro a hf
  obtain ⟨xs5, hk4, hm⟩ := bind_some hm
  refine sMakeL (enc := ints) hf hs rfl rfl rfl rfl rfl hk4 el25 ti2 rfl ints_made ?_; clear hf hs; intro a w A3 hs hf
  have hs : St [] W w [.blk b1 34 [.int .i64 p0_g.Events, .slice A_p0_g_1 p0_g.Places.length c_p0_g_1], .blk b2 36 [.int .i64 p1_t.Period, .slice A_p1_t_1 p1_t.Starts.length c_p1_t_1], .row A3 xs5.length xs5.length 2 1 (ints xs5)] := hs
  refine sY hf hs rfl rfl rfl (Y_assign rfl rfl) ?_; clear hf; intro a hf
  refine wpO_nil ?_
  refine wpL_seq ?_
  obtain ⟨r12, hj13, hm⟩ := bind_some hm
  refine wpL_cut (fun a w => ∃ b11 : Bool, b11 = r12 ∧ Fr a 63 [(2, .int .i64 p2_event), (3, .int .i64 p3_by), (4, .pointer (some ⟨b1, 0, none⟩)), (5, .pointer (some ⟨b2, 0, none⟩)), (10, .slice A3 xs5.length xs5.length), (11, .bool b11)] ∧ St [] W w [.blk b1 34 [.int .i64 p0_g.Events, .slice A_p0_g_1 p0_g.Places.length c_p0_g_1], .blk b2 36 [.int .i64 p1_t.Period, .slice A_p1_t_1 p1_t.Starts.length c_p1_t_1], .row A3 xs5.length xs5.length 2 1 (ints xs5)]) ?_ ?_
  · refine wpL_region ?_
    refine sY hf hs rfl rfl rfl (Y_move rfl rfl) ?_; clear hf; intro a hf
    refine sY hf hs rfl rfl rfl (Y_move rfl rfl) ?_; clear hf; intro a hf
    refine sY hf hs rfl rfl rfl (Y_lenH rfl rfl el25 rfl) ?_; clear hf; intro a hf
    refine sY hf hs rfl rfl rfl (Y_sub rfl rfl rfl) ?_; clear hf; intro a hf
    obtain ⟨r14, hc15, hj13⟩ := bind_some hj13
    refine sCall hf rfl rfl rfl rfl (cap := []) rfl rfl en65 (impl_within_ok F p2_event 0 (IntKind.i64.wrap ((xs5.length : Int) - 1)) _ _ hc15) ?_; clear hf
    rintro _ w ⟨rfl, hs1⟩ a hf
    have hs : St [] W w [.blk b1 34 [.int .i64 p0_g.Events, .slice A_p0_g_1 p0_g.Places.length c_p0_g_1], .blk b2 36 [.int .i64 p1_t.Period, .slice A_p1_t_1 p1_t.Starts.length c_p1_t_1], .row A3 xs5.length xs5.length 2 1 (ints xs5)] := hs.ext hs1.below
    clear hs1
    refine sY hf hs rfl rfl rfl (Y_move rfl rfl) ?_; clear hf; intro a hf
    refine bsplit r14 (fun hb16 => ?_) (fun hb16 => ?_)
    · have hj13 := bif_t hj13 hb16
      refine sYg hf hs rfl rfl rfl (congrArg (fun b => some (Value.bool b)) hb16) rfl rfl rfl (Y_move rfl rfl) ?_; clear hf; intro a hf
      obtain ⟨r17, hc18, hj13⟩ := bind_some hj13
      refine sCallg hf rfl rfl rfl (congrArg (fun b => some (Value.bool b)) hb16) rfl rfl rfl rfl (cap := []) rfl rfl en65 (impl_within_ok F p3_by 0 1000000 _ _ hc18) ?_; clear hf
      rintro _ w ⟨rfl, hs1⟩ a hf
      have hs : St [] W w [.blk b1 34 [.int .i64 p0_g.Events, .slice A_p0_g_1 p0_g.Places.length c_p0_g_1], .blk b2 36 [.int .i64 p1_t.Period, .slice A_p1_t_1 p1_t.Starts.length c_p1_t_1], .row A3 xs5.length xs5.length 2 1 (ints xs5)] := hs.ext hs1.below
      clear hs1
      refine sY hf hs rfl rfl rfl (Y_pickT rfl (congrArg (fun b => some (Value.bool b)) hb16) rfl) ?_; clear hf; intro a hf
      refine sY hf hs rfl rfl rfl (Y_assign rfl rfl) ?_; clear hf; intro a hf
      refine wpO_nil ?_
      refine wpL_nil (then_normal ?_)
      exact ⟨r17, Option.some.inj hj13, (Fr.pick (Fr.pick (Fr.pick (Fr.pick (Fr.pick (Fr.pick hf.none hf rfl) hf rfl) hf rfl) hf rfl) hf rfl) hf rfl), hs⟩
    · have hj13 := bif_f hj13 hb16
      refine sNo hf rfl rfl rfl (congrArg (fun b => some (Value.bool b)) hb16) rfl rfl rfl ?_; clear hf; intro a hf
      refine sNo hf rfl rfl rfl (congrArg (fun b => some (Value.bool b)) hb16) rfl rfl rfl ?_; clear hf; intro a hf
      refine sY hf hs rfl rfl rfl (Y_pickF rfl (congrArg (fun b => some (Value.bool b)) hb16) rfl) ?_; clear hf; intro a hf
      refine sY hf hs rfl rfl rfl (Y_assign rfl rfl) ?_; clear hf; intro a hf
      refine wpO_nil ?_
      refine wpL_nil (then_normal ?_)
      exact ⟨false, Option.some.inj hj13, (Fr.pick (Fr.pick (Fr.pick (Fr.pick (Fr.pick (Fr.pick hf.none hf rfl) hf rfl) hf rfl) hf rfl) hf rfl) hf rfl), hs⟩
  · rintro a w ⟨b11, hr_, hf, hs⟩
    subst hr_
    try dsimp only at hm
    refine wpL_seq ?_
    refine wpL_seq ?_
    refine wpL_region ?_
    refine sY hf hs rfl rfl rfl (Y_move rfl rfl) ?_; clear hf; intro a hf
    refine wpO_nil ?_
    obtain ⟨r26, hj27, hm⟩ := bind_some hm
    refine wpL_cut (fun a w => ∃ xs24 : List Int, xs24 = r26 ∧ xs5.length = xs24.length ∧ Fr a 63 [(4, .pointer (some ⟨b1, 0, none⟩)), (5, .pointer (some ⟨b2, 0, none⟩)), (10, .slice A3 xs5.length xs5.length), (11, .bool b11)] ∧ St [] W w [.blk b1 34 [.int .i64 p0_g.Events, .slice A_p0_g_1 p0_g.Places.length c_p0_g_1], .blk b2 36 [.int .i64 p1_t.Period, .slice A_p1_t_1 p1_t.Starts.length c_p1_t_1], .row A3 xs5.length xs5.length 2 1 (ints xs24)]) ?_ ?_
    · refine wpL_cond hf rfl (fun hb28 => ?_) (fun hb28 => ?_)
      · have hj27 := bif_t hj27 hb28
        refine wpL_region ?_
        refine sY hf hs rfl rfl rfl (Y_move rfl rfl) ?_; clear hf; intro a hf
        refine sY hf hs rfl rfl rfl (Y_move rfl rfl) ?_; clear hf; intro a hf
        refine sY hf hs rfl rfl rfl (Y_move rfl rfl) ?_; clear hf; intro a hf
        obtain ⟨q29, hi30, hj27⟩ := bind_some hj27
        obtain ⟨hi30a, hi30b, hi30q⟩ := idx_some hi30
        refine sY hf hs rfl rfl rfl (Y_index rfl rfl rfl el25 ti2 (Rd.isAt (hs.rd (i := 2) rfl) (at1 (ints_at hi30q))) hi30a hi30b) ?_; clear hf; intro a hf
        obtain ⟨xs31, hu32, hj27⟩ := bind_some hj27
        refine sStoreL (i := 2) (us := [.int .i64 p3_by]) (enc := ints) hf hs rfl rfl rfl rfl rfl rfl rfl hu32 ti2 rfl rfl rfl rfl rfl ints_len1 (ints_set p3_by) ?_; clear hs; intro w hs
        have hs : St [] W w [.blk b1 34 [.int .i64 p0_g.Events, .slice A_p0_g_1 p0_g.Places.length c_p0_g_1], .blk b2 36 [.int .i64 p1_t.Period, .slice A_p1_t_1 p1_t.Starts.length c_p1_t_1], .row A3 xs5.length xs5.length 2 1 (ints xs31)] := hs
        refine wpO_nil ?_
        refine wpL_nil (then_normal ?_)
        exact ⟨xs31, Option.some.inj hj27, (upd_len hu32).symm, (Fr.pick (Fr.pick (Fr.pick (Fr.pick hf.none hf rfl) hf rfl) hf rfl) hf rfl), hs⟩
      · have hj27 := bif_f hj27 hb28
        refine wpL_skip ?_
        refine wpL_nil (then_normal ?_)
        exact ⟨xs5, Option.some.inj hj27, rfl, (Fr.pick (Fr.pick (Fr.pick (Fr.pick hf.none hf rfl) hf rfl) hf rfl) hf rfl), hs⟩
    · rintro a w ⟨xs24, hr_, hn25, hf, hs⟩
      subst hr_
      try dsimp only at hm
      refine wpL_seq ?_
      refine wpL_seq ?_
      refine wpL_region ?_
      refine sY hf hs rfl rfl rfl (Y_load_blkS rfl rfl (i := 0) rfl ag34 ti34 rfl) ?_; clear hf; intro a hf
      refine sY hf hs rfl rfl rfl (Y_load_blkS rfl rfl (i := 1) rfl ag36 ti36 rfl) ?_; clear hf; intro a hf
      refine sY hf hs rfl rfl rfl (Y_move rfl rfl) ?_; clear hf; intro a hf
      refine sY hf hs rfl rfl rfl (Y_move rfl rfl) ?_; clear hf; intro a hf
      obtain ⟨r33, hc34, hm⟩ := bind_some hm
      refine sCall hf rfl rfl rfl rfl (cap := []) rfl rfl en64 (impl_checkDelays_ok F p0_g A_p0_g_1 p0_g.Places.length c_p0_g_1 rfl p1_t A_p1_t_1 p1_t.Starts.length c_p1_t_1 rfl xs24 A3 xs5.length xs5.length hn25 b11 _ _ hc34 (h_p0_g_1.at hs) (h_p1_t_1.at hs) (hs.rd (i := 2) rfl)) ?_; clear hf
      rintro _ w ⟨rfl, hs1⟩ a hf
      have hs : St [] W w [.blk b1 34 [.int .i64 p0_g.Events, .slice A_p0_g_1 p0_g.Places.length c_p0_g_1], .blk b2 36 [.int .i64 p1_t.Period, .slice A_p1_t_1 p1_t.Starts.length c_p1_t_1], .row A3 xs5.length xs5.length 2 1 (ints xs24)] := hs.ext hs1.below
      clear hs1
      refine sY hf hs rfl rfl rfl (Y_assign rfl rfl) ?_; clear hf; intro a hf
      refine wpO_nil ?_
      refine wpL_seq ?_
      refine wpL_region ?_
      refine sY hf hs rfl rfl rfl (Y_move rfl rfl) ?_; clear hf; intro a hf
      refine sY hf hs rfl rfl rfl (Y_neq rfl rfl rfl) ?_; clear hf; intro a hf
      refine wpO_nil ?_
      refine wpL_cond hf rfl (fun hb35 => ?_) (fun hb35 => ?_)
      · have hm := bif_t hm hb35
        refine wpL_seq ?_
        refine wpL_region ?_
        refine sY hf hs rfl rfl rfl (Y_move rfl rfl) ?_; clear hf; intro a hf
        refine sY hf hs rfl rfl rfl (Y_assign rfl rfl) ?_; clear hf; intro a hf
        refine sY hf hs rfl rfl rfl (Y_assign rfl rfl) ?_; clear hf; intro a hf
        refine wpO_nil ?_
        have hs : St [] W _ [.blk b1 34 [.int .i64 p0_g.Events, .slice A_p0_g_1 p0_g.Places.length c_p0_g_1], .blk b2 36 [.int .i64 p1_t.Period, .slice A_p1_t_1 p1_t.Starts.length c_p1_t_1], .row A3 xs5.length xs5.length 2 1 (ints xs24), .row none 0 0 2 1 (ints ([] : List Int))] := hs.addNil 2 1
        obtain rfl := Option.some.inj hm
        refine wpL_ret (ret_tmp2 rfl hf rfl rfl ?_)
        exact ⟨_, rfl, none, 0, 0, rfl, rfl, hs.sel [3] (by decide)⟩
      · have hm := bif_f hm hb35
        refine wpL_skip ?_
        refine wpL_seq ?_
        refine wpL_region ?_
        refine sY hf hs rfl rfl rfl (Y_assign rfl rfl) ?_; clear hf; intro a hf
        refine wpO_nil ?_
        refine wpL_seq ?_
        refine wpL_seq ?_
        refine wpL_drawG [.blk b1 34 [.int .i64 p0_g.Events, .slice A_p0_g_1 p0_g.Places.length c_p0_g_1], .blk b2 36 [.int .i64 p1_t.Period, .slice A_p1_t_1 p1_t.Starts.length c_p1_t_1], .row A3 xs5.length xs5.length 2 1 (ints xs24)] 8 (by kernel_rfl) hs ?_; clear hs; intro w hs
        have hs0 : St [] W w [.blk b1 34 [.int .i64 p0_g.Events, .slice A_p0_g_1 p0_g.Places.length c_p0_g_1], .blk b2 36 [.int .i64 p1_t.Period, .slice A_p1_t_1 p1_t.Starts.length c_p1_t_1], .row A3 xs5.length xs5.length 2 1 (ints xs24)] := hs
        refine gY (i := 0) [] rfl (by kernel_rfl) (by kernel_rfl) hf hs0 rfl rfl rfl (Y_load_blkS rfl rfl (i := 0) rfl ag34 ti34 rfl) ?_; clear hf; intro a hf
        refine gY (i := 1) [] rfl (by kernel_rfl) (by kernel_rfl) hf hs0 rfl rfl rfl (Y_load_blkS rfl rfl (i := 0) rfl ag34 ti34 rfl) ?_; clear hf; intro a hf
        refine gY (i := 2) [] rfl (by kernel_rfl) (by kernel_rfl) hf hs0 rfl rfl rfl (Y_load_blkS rfl rfl (i := 1) rfl ag36 ti36 rfl) ?_; clear hf; intro a hf
        refine gY (i := 3) [] rfl (by kernel_rfl) (by kernel_rfl) hf hs0 rfl rfl rfl (Y_move rfl rfl) ?_; clear hf; intro a hf
        refine gY (i := 7) [] rfl (by kernel_rfl) (by kernel_rfl) hf hs0 rfl rfl rfl (Y_move rfl rfl) ?_; clear hf; intro a hf
        refine gRun (i := 4) rfl (by kernel_rfl) ?_
        obtain ⟨r50, hc51, hm⟩ := bind_some hm
        refine sCall hf rfl rfl rfl rfl (cap := []) rfl rfl en79 (impl_delayTable_ok F p0_g A_p0_g_1 p0_g.Places.length c_p0_g_1 rfl p1_t A_p1_t_1 p1_t.Starts.length c_p1_t_1 rfl xs24 A3 xs5.length xs5.length hn25 50 _ _ hc51 (h_p0_g_1.at hs) (h_p1_t_1.at hs) (hs.rd (i := 2) rfl)) ?_; clear hf
        rintro _ w ⟨A52, n53, c54, vs56, rfl, hn55, hs1⟩ a hf
        have hs : St [] W w [.blk b1 34 [.int .i64 p0_g.Events, .slice A_p0_g_1 p0_g.Places.length c_p0_g_1], .blk b2 36 [.int .i64 p1_t.Period, .slice A_p1_t_1 p1_t.Starts.length c_p1_t_1], .row A3 xs5.length xs5.length 2 1 (ints xs24), .mat A52 n53 c54 25 2 vs56 r50] := hs.join hs1
        clear hs1
        have hs0 : St [] W w [.blk b1 34 [.int .i64 p0_g.Events, .slice A_p0_g_1 p0_g.Places.length c_p0_g_1], .blk b2 36 [.int .i64 p1_t.Period, .slice A_p1_t_1 p1_t.Starts.length c_p1_t_1], .row A3 xs5.length xs5.length 2 1 (ints xs24)] := hs.sel [0, 1, 2] (by decide)
        refine wpO_nil ⟨Or.inr hs0, ?_⟩
        refine gRun (i := 5) rfl (by kernel_rfl) ?_
        obtain ⟨r57, hc58, hm⟩ := bind_some hm
        refine sCall hf rfl rfl rfl rfl (cap := []) rfl rfl en80 (impl_worstOf_ok F p0_g A_p0_g_1 p0_g.Places.length c_p0_g_1 rfl r50 A52 n53 c54 hn55 _ _ hc58 (h_p0_g_1.at hs) (hs.rdM (i := 3) rfl)) ?_; clear hf
        rintro _ w ⟨A59, n60, c61, rfl, hn62, hs1⟩ a hf
        have hs : St [] W w [.blk b1 34 [.int .i64 p0_g.Events, .slice A_p0_g_1 p0_g.Places.length c_p0_g_1], .blk b2 36 [.int .i64 p1_t.Period, .slice A_p1_t_1 p1_t.Starts.length c_p1_t_1], .row A3 xs5.length xs5.length 2 1 (ints xs24), .mat A52 n53 c54 25 2 vs56 r50, .row A59 n60 c61 2 1 (ints r57)] := hs.join hs1
        clear hs1
        have hs0 : St [] W w [.blk b1 34 [.int .i64 p0_g.Events, .slice A_p0_g_1 p0_g.Places.length c_p0_g_1], .blk b2 36 [.int .i64 p1_t.Period, .slice A_p1_t_1 p1_t.Starts.length c_p1_t_1], .row A3 xs5.length xs5.length 2 1 (ints xs24)] := hs.sel [0, 1, 2] (by decide)
        refine wpO_nil ⟨Or.inr hs0, ?_⟩
        refine gY (i := 6) [] rfl (by kernel_rfl) (by kernel_rfl) hf hs0 rfl rfl rfl (Y_lenH rfl rfl el25 hn62) ?_; clear hf; intro a hf
        refine gDone (by kernel_rfl) ?_
        clear hs0
        obtain ⟨r113, hl114, hm⟩ := bind_some hm
        have hs : St [] W _ [.blk b1 34 [.int .i64 p0_g.Events, .slice A_p0_g_1 p0_g.Places.length c_p0_g_1], .blk b2 36 [.int .i64 p1_t.Period, .slice A_p1_t_1 p1_t.Starts.length c_p1_t_1], .row A3 xs5.length xs5.length 2 1 (ints xs24), .mat A52 n53 c54 25 2 vs56 r50, .row A59 n60 c61 2 1 (ints r57), .row none 0 0 2 1 (ints ([] : List Int))] := hs.addNil 2 1
        refine wpL_block (fun a w => ∃ xs108 : List Int, ∃ A109, ∃ n110, ∃ c111, xs108 = r113 ∧ n110 = xs108.length ∧ Fr a 63 [(13, .slice A109 n110 c111)] ∧ St [] W w [.row A109 n110 c111 2 1 (ints xs108)]) ?_ ?_
        · refine wpL_loop (fun n a w => ∃ xs92 : List Int, ∃ x97 : Int, ∃ A93, ∃ n94, ∃ c95, impl_DelayedEvents_L1 F r57 n xs92 x97 = some r113 ∧ n94 = xs92.length ∧ Fr a 63 [(13, .slice A93 n94 c95), (48, .slice A59 n60 c61), (49, .int .i64 (r57.length : Int)), (50, .int .i64 x97)] ∧ St [] W w [.row A59 n60 c61 2 1 (ints r57), .row A93 n94 c95 2 1 (ints xs92)]) F ?_ ?_ ?_
          · exact ⟨([] : List Int), 0, none, 0, 0, hl114, rfl, (Fr.pick (Fr.pick (Fr.pick (Fr.pick hf.none hf rfl) hf rfl) hf rfl) hf rfl), hs.sel [4, 5] (by decide)⟩
          · rintro a w ⟨xs92, x97, A93, n94, c95, h0_, -, -, -⟩; simp [impl_DelayedEvents_L1] at h0_
          · rintro n116 a w ⟨xs92, x97, A93, n94, c95, hm115, hn96, hf, hs⟩
            rw [impl_DelayedEvents_L1] at hm115
            refine wpL_seq ?_
            refine wpL_region ?_
            refine sY hf hs rfl rfl rfl (Y_lss rfl rfl rfl) ?_; clear hf; intro a hf
            refine wpO_nil ?_
            refine wpL_seq ?_
            refine wpL_cond hf rfl (fun hb117 => ?_) (fun hb117 => ?_)
            · have hm115 := bif_t hm115 hb117
              refine wpL_skip ?_
              refine wpL_seq ?_
              refine wpL_block0 ?_
              refine wpL_seq ?_
              refine wpL_region ?_
              refine sY hf hs rfl rfl rfl (Y_move rfl rfl) ?_; clear hf; intro a hf
              obtain ⟨q118, hi119, hm115⟩ := bind_some hm115
              obtain ⟨hi119a, hi119b, hi119q⟩ := idx_some hi119
              refine sY hf hs rfl rfl rfl (Y_index rfl rfl rfl el25 ti2 (Rd.isAt (hs.rd (i := 0) rfl) (at1 (ints_at hi119q))) hi119a (ltn hn62 hi119b)) ?_; clear hf; intro a hf
              refine sY hf hs rfl rfl rfl (Y_load_rd rfl rfl (fun w hs => hs.rd (i := 0) rfl) (at1 (ints_at hi119q)) ag2) ?_; clear hf; intro a hf
              refine sY hf hs rfl rfl rfl (Y_assign rfl rfl) ?_; clear hf; intro a hf
              refine sY hf hs rfl rfl rfl (Y_assign rfl rfl) ?_; clear hf; intro a hf
              refine wpO_nil ?_
              refine wpL_seq ?_
              refine wpL_region ?_
              refine sY hf hs rfl rfl rfl (Y_move rfl rfl) ?_; clear hf; intro a hf
              refine sY hf hs rfl rfl rfl (Y_neq rfl rfl rfl) ?_; clear hf; intro a hf
              refine wpO_nil ?_
              refine wpL_cond hf rfl (fun hb120 => ?_) (fun hb120 => ?_)
              · have hm115 := bif_t hm115 hb120
                refine wpL_region ?_
                refine sY hf hs rfl rfl rfl (Y_move rfl rfl) ?_; clear hf; intro a hf
                refine sY hf hs rfl rfl rfl (Y_move rfl rfl) ?_; clear hf; intro a hf
                refine sBuildSlice (parts := [(0, .tmp 58)]) (vs := [.int .i64 x97]) (cells := [.int .i64 x97]) hf hs rfl rfl rfl rfl rfl el25 ti2 rfl rfl rfl rfl ?_; clear hf hs; intro a w A121 hs hA122 hf
                have hs : St [] W w [.row A59 n60 c61 2 1 (ints r57), .row A93 n94 c95 2 1 (ints xs92), .row A121 1 1 2 1 (ints ([x97]))] := hs
                obtain ⟨xs125, ha126, hm115⟩ := bind_some hm115
                refine sAppendL (i := 1) (xs := xs92) (ys := [x97]) (enc := ints) hf hs rfl rfl rfl rfl rfl rfl hn96 rfl rfl ha126 el25 ti2 rfl rfl rfl (hs.rd (i := 2) rfl) (Nat.succ_pos _) ints_len1 ints_append ints_one ?_; clear hf hs; intro a w A123 c124 hs hf
                have hs : St [] W w [.row A59 n60 c61 2 1 (ints r57), .row A123 xs125.length c124 2 1 (ints xs125), .row A121 1 1 2 1 (ints ([x97]))] := hs
                refine sY hf hs rfl rfl rfl (Y_assign rfl rfl) ?_; clear hf; intro a hf
                refine wpO_nil ?_
                refine wpL_nil (Qb_normal ?_)
                refine wpL_region ?_
                refine sY hf hs rfl rfl rfl (Y_add rfl rfl rfl) ?_; clear hf; intro a hf
                refine sY hf hs rfl rfl rfl (Y_move rfl rfl) ?_; clear hf; intro a hf
                refine wpO_nil ?_
                refine wpL_nil (Ql_normal ?_)
                exact ⟨xs125, (IntKind.i64.wrap (x97 + 1)), A123, xs125.length, c124, hm115, rfl, (Fr.pick (Fr.pick (Fr.pick (Fr.pick hf.none hf rfl) hf rfl) hf rfl) hf rfl), hs.sel [0, 1] (by decide)⟩
              · have hm115 := bif_f hm115 hb120
                refine wpL_skip ?_
                refine wpL_nil (Qb_normal ?_)
                refine wpL_region ?_
                refine sY hf hs rfl rfl rfl (Y_add rfl rfl rfl) ?_; clear hf; intro a hf
                refine sY hf hs rfl rfl rfl (Y_move rfl rfl) ?_; clear hf; intro a hf
                refine wpO_nil ?_
                refine wpL_nil (Ql_normal ?_)
                exact ⟨xs92, (IntKind.i64.wrap (x97 + 1)), A93, n94, c95, hm115, hn96, (Fr.pick (Fr.pick (Fr.pick (Fr.pick hf.none hf rfl) hf rfl) hf rfl) hf rfl), hs⟩
            · have hm115 := bif_f hm115 hb117
              refine wpL_exit (Ql_exit (Qb_exit ?_))
              exact ⟨xs92, A93, n94, c95, Option.some.inj hm115, hn96, (Fr.pick hf.none hf rfl), hs.sel [1] (by decide)⟩
        · rintro a w ⟨xs108, A109, n110, c111, hr_, hn112, hf, hs⟩
          subst hr_
          try dsimp only at hm
          refine wpL_seq ?_
          refine wpL_region ?_
          refine sY hf hs rfl rfl rfl (Y_move rfl rfl) ?_; clear hf; intro a hf
          refine sY hf hs rfl rfl rfl (Y_assign rfl rfl) ?_; clear hf; intro a hf
          refine sY hf hs rfl rfl rfl (Y_assign rfl rfl) ?_; clear hf; intro a hf
          refine wpO_nil ?_
          obtain rfl := Option.some.inj hm
          refine wpL_ret (ret_tmp2 rfl hf rfl rfl ?_)
          exact ⟨_, rfl, A109, n110, c111, rfl, hn112, hs⟩

set_option maxRecDepth 100000 in
theorem laws_eqInt64S_ok (F : Nat) (p0_a : List Int) (A_p0_a_1 : Option Addr) (n_p0_a_1 c_p0_a_1 : Nat) (hn_p0_a_1 : n_p0_a_1 = p0_a.length) (p1_b : List Int) (A_p1_b_1 : Option Addr) (n_p1_b_1 c_p1_b_1 : Nat) (hn_p1_b_1 : n_p1_b_1 = p1_b.length) (r : Bool) (W : World) (hm : laws_eqInt64S F p0_a p1_b = some r) (h_p0_a_1 : Rd W A_p0_a_1 (ints p0_a)) (h_p1_b_1 : Rd W A_p1_b_1 (ints p1_b)) :
    Calls Try.prog 34 [.slice A_p0_a_1 n_p0_a_1 c_p0_a_1, .slice A_p1_b_1 n_p1_b_1 c_p1_b_1].toArray W fun e w' => ∃ v, e = .returned v ∧ v = .bool r ∧ St [] W w' [] := by
  subst hn_p0_a_1
  subst hn_p1_b_1
  unfold laws_eqInt64S at hm
  refine Calls.enter (N := 26) Try.func34 rfl rfl rfl (fun a hf => ?_)
  have hs := St.start W
  obtain ⟨w, hw_⟩ : ∃ w, w = W := ⟨W, rfl⟩
  clear hw_ w
  refine wpL_seq ?_
  refine wpL_region ?_
  refine sY hf hs rfl rfl rfl (Y_assign rfl rfl) ?_; clear hf; intro a hf
  refine wpO_nil ?_
  refine wpL_seq ?_
  refine wpL_seq ?_
  refine wpL_region ?_
  refine sY hf hs rfl rfl rfl (Y_move rfl rfl) ?_; clear hf; intro a hf
  refine sY hf hs rfl rfl rfl (Y_lenH rfl rfl el25 rfl) ?_; clear hf; intro a hf
  refine sY hf hs rfl rfl rfl (Y_move rfl rfl) ?_; clear hf; intro a hf
  refine sY hf hs rfl rfl rfl (Y_lenH rfl rfl el25 rfl) ?_; clear hf; intro a hf
  refine sY hf hs rfl rfl rfl (Y_neq rfl rfl rfl) ?_; clear hf; intro a hf
  refine wpO_nil ?_
  refine wpL_cond hf rfl (fun hb1 => ?_) (fun hb1 => ?_)
  · have hm := bif_t hm hb1
    refine wpL_seq ?_
    refine wpL_region ?_
    refine sY hf hs rfl rfl rfl (Y_assign rfl rfl) ?_; clear hf; intro a hf
    refine wpO_nil ?_
    obtain rfl := Option.some.inj hm
    refine wpL_ret (ret_tmp rfl hf rfl ?_)
    exact ⟨_, rfl, rfl, hs⟩
  · have hm := bif_f hm hb1
    refine wpL_skip ?_
    refine wpL_seq ?_
    refine wpL_seq ?_
    refine wpL_region ?_
    refine sY hf hs rfl rfl rfl (Y_assign rfl rfl) ?_; clear hf; intro a hf
    refine wpO_nil ?_
    obtain ⟨r22, hl23, hm⟩ := bind_some hm
    refine wpL_block (fun a w => Sum.inr () = r22 ∧ Fr a 26 [] ∧ St [] W w []) ?_ ?_
    · refine wpL_loop (fun n a w => ∃ x15 : Int, laws_eqInt64S_L1 F p0_a p1_b n x15 = some r22 ∧ Fr a 26 [(0, .slice A_p0_a_1 p0_a.length c_p0_a_1), (1, .slice A_p1_b_1 p1_b.length c_p1_b_1), (5, .int .i64 x15)] ∧ St [] W w []) F ?_ ?_ ?_
      · exact ⟨0, hl23, (Fr.pick (Fr.pick (Fr.pick hf.none hf rfl) hf rfl) hf rfl), hs⟩
      · rintro a w ⟨x15, h0_, -, -⟩; simp [laws_eqInt64S_L1] at h0_
      · rintro n25 a w ⟨x15, hm24, hf, hs⟩
        rw [laws_eqInt64S_L1] at hm24
        refine wpL_seq ?_
        refine wpL_seq ?_
        refine wpL_region ?_
        refine sY hf hs rfl rfl rfl (Y_move rfl rfl) ?_; clear hf; intro a hf
        refine sY hf hs rfl rfl rfl (Y_move rfl rfl) ?_; clear hf; intro a hf
        refine sY hf hs rfl rfl rfl (Y_lenH rfl rfl el25 rfl) ?_; clear hf; intro a hf
        refine sY hf hs rfl rfl rfl (Y_lss rfl rfl rfl) ?_; clear hf; intro a hf
        refine wpO_nil ?_
        refine wpL_cond hf rfl (fun hb26 => ?_) (fun hb26 => ?_)
        · have hm24 := bif_t hm24 hb26
          refine wpL_skip ?_
          refine wpL_seq ?_
          refine wpL_block0 ?_
          refine wpL_seq ?_
          refine wpL_draw (by kernel_rfl) (by kernel_rfl) hs ?_
          refine qY hf rfl rfl rfl (Y_move rfl rfl) ?_; clear hf; intro a hf
          refine qY hf rfl rfl rfl (Y_move rfl rfl) ?_; clear hf; intro a hf
          obtain ⟨q27, hi28, hm24⟩ := bind_some hm24
          obtain ⟨hi28a, hi28b, hi28q⟩ := idx_some hi28
          refine qY hf rfl rfl rfl (Y_index rfl rfl rfl el25 ti2 (Rd.isAt (h_p0_a_1.at hs) (at1 (ints_at hi28q))) hi28a hi28b) ?_; clear hf; intro a hf
          refine qY hf rfl rfl rfl (Y_load_rd rfl rfl (fun w hs => h_p0_a_1.at hs) (at1 (ints_at hi28q)) ag2) ?_; clear hf; intro a hf
          refine qY hf rfl rfl rfl (Y_move rfl rfl) ?_; clear hf; intro a hf
          refine qY hf rfl rfl rfl (Y_move rfl rfl) ?_; clear hf; intro a hf
          obtain ⟨q29, hi30, hm24⟩ := bind_some hm24
          obtain ⟨hi30a, hi30b, hi30q⟩ := idx_some hi30
          refine qY hf rfl rfl rfl (Y_index rfl rfl rfl el25 ti2 (Rd.isAt (h_p1_b_1.at hs) (at1 (ints_at hi30q))) hi30a hi30b) ?_; clear hf; intro a hf
          refine qY hf rfl rfl rfl (Y_load_rd rfl rfl (fun w hs => h_p1_b_1.at hs) (at1 (ints_at hi30q)) ag2) ?_; clear hf; intro a hf
          refine qY hf rfl rfl rfl (Y_neq rfl rfl rfl) ?_; clear hf; intro a hf
          refine qNil ?_; clear hs; intro w hs
          refine wpL_cond hf rfl (fun hb31 => ?_) (fun hb31 => ?_)
          · have hm24 := bif_t hm24 hb31
            refine wpL_seq ?_
            refine wpL_region ?_
            refine sY hf hs rfl rfl rfl (Y_assign rfl rfl) ?_; clear hf; intro a hf
            refine wpO_nil ?_
            obtain rfl := Option.some.inj hm24
            try dsimp only at hm
            obtain rfl := Option.some.inj hm
            refine wpL_ret (Qb_ret (Ql_ret (Qb_ret (ret_tmp rfl hf rfl ?_))))
            exact ⟨_, rfl, rfl, hs⟩
          · have hm24 := bif_f hm24 hb31
            refine wpL_skip ?_
            refine wpL_nil (Qb_normal ?_)
            refine wpL_region ?_
            refine sY hf hs rfl rfl rfl (Y_move rfl rfl) ?_; clear hf; intro a hf
            refine sY hf hs rfl rfl rfl (Y_add rfl rfl rfl) ?_; clear hf; intro a hf
            refine sY hf hs rfl rfl rfl (Y_assign rfl rfl) ?_; clear hf; intro a hf
            refine wpO_nil ?_
            refine wpL_nil (Ql_normal ?_)
            exact ⟨(IntKind.i64.wrap (x15 + 1)), hm24, (Fr.pick (Fr.pick (Fr.pick hf.none hf rfl) hf rfl) hf rfl), hs⟩
        · have hm24 := bif_f hm24 hb26
          refine wpL_exit (Ql_exit (Qb_exit ?_))
          exact ⟨Option.some.inj hm24, hf.none, hs⟩
    · rintro a w ⟨hr_, hf, hs⟩
      subst hr_
      try dsimp only at hm
      refine wpL_seq ?_
      refine wpL_region ?_
      refine sY hf hs rfl rfl rfl (Y_assign rfl rfl) ?_; clear hf; intro a hf
      refine wpO_nil ?_
      obtain rfl := Option.some.inj hm
      refine wpL_ret (ret_tmp rfl hf rfl ?_)
      exact ⟨_, rfl, rfl, hs⟩

set_option maxRecDepth 100000 in
theorem laws_eqPlace_ok (F : Nat) (p0_a : GPlace) (p1_b : GPlace) (r : Bool) (W : World) (hm : laws_eqPlace F p0_a p1_b = some r) :
    Calls Try.prog 106 [.agg #[.int .i64 p0_a.From, .int .i64 p0_a.To, .int .i64 p0_a.Delay, .int .i64 p0_a.Tokens], .agg #[.int .i64 p1_b.From, .int .i64 p1_b.To, .int .i64 p1_b.Delay, .int .i64 p1_b.Tokens]].toArray W fun e w' => ∃ v, e = .returned v ∧ v = .bool r ∧ St [] W w' [] := by
  unfold laws_eqPlace at hm
  refine Calls.enter (N := 25) Try.func106 rfl rfl rfl (fun a hf => ?_)
  have hs := St.start W
  obtain ⟨w, hw_⟩ : ∃ w, w = W := ⟨W, rfl⟩
  clear hw_ w
  refine wpL_seq ?_
  refine wpL_region ?_
  refine sBox hf hs rfl rfl rfl rfl rfl (cs := [.int .i64 p0_a.From, .int .i64 p0_a.To, .int .i64 p0_a.Delay, .int .i64 p0_a.Tokens]) rfl ?_; clear hf hs; intro a w b1 hs hf
  have hs : St [] W w [.blk b1 71 [.int .i64 p0_a.From, .int .i64 p0_a.To, .int .i64 p0_a.Delay, .int .i64 p0_a.Tokens]] := hs
  refine sBox hf hs rfl rfl rfl rfl rfl (cs := [.int .i64 p1_b.From, .int .i64 p1_b.To, .int .i64 p1_b.Delay, .int .i64 p1_b.Tokens]) rfl ?_; clear hf hs; intro a w b2 hs hf
  have hs : St [] W w [.blk b1 71 [.int .i64 p0_a.From, .int .i64 p0_a.To, .int .i64 p0_a.Delay, .int .i64 p0_a.Tokens], .blk b2 71 [.int .i64 p1_b.From, .int .i64 p1_b.To, .int .i64 p1_b.Delay, .int .i64 p1_b.Tokens]] := hs
  refine sY hf hs rfl rfl rfl (Y_assign rfl rfl) ?_; clear hf; intro a hf
  refine wpO_nil ?_
  refine wpL_seq ?_
  refine wpL_seq ?_
  refine wpL_region ?_
  refine sY hf hs rfl rfl rfl (Y_fieldAddr rfl rfl fo71_0) ?_; clear hf; intro a hf
  refine sY hf hs rfl rfl rfl (Y_load_blk rfl rfl (i := 0) rfl rfl ag2) ?_; clear hf; intro a hf
  refine sY hf hs rfl rfl rfl (Y_fieldAddr rfl rfl fo71_0) ?_; clear hf; intro a hf
  refine sY hf hs rfl rfl rfl (Y_load_blk rfl rfl (i := 1) rfl rfl ag2) ?_; clear hf; intro a hf
  refine sY hf hs rfl rfl rfl (Y_neq rfl rfl rfl) ?_; clear hf; intro a hf
  refine wpO_nil ?_
  refine wpL_cond hf rfl (fun hb3 => ?_) (fun hb3 => ?_)
  · have hm := bif_t hm hb3
    refine wpL_seq ?_
    refine wpL_region ?_
    refine sY hf hs rfl rfl rfl (Y_assign rfl rfl) ?_; clear hf; intro a hf
    refine wpO_nil ?_
    obtain rfl := Option.some.inj hm
    refine wpL_ret (ret_tmp rfl hf rfl ?_)
    exact ⟨_, rfl, rfl, hs.sel [] (by decide)⟩
  · have hm := bif_f hm hb3
    refine wpL_skip ?_
    refine wpL_seq ?_
    refine wpL_seq ?_
    refine wpL_region ?_
    refine sY hf hs rfl rfl rfl (Y_fieldAddr rfl rfl fo71_1) ?_; clear hf; intro a hf
    refine sY hf hs rfl rfl rfl (Y_load_blk rfl rfl (i := 0) rfl rfl ag2) ?_; clear hf; intro a hf
    refine sY hf hs rfl rfl rfl (Y_fieldAddr rfl rfl fo71_1) ?_; clear hf; intro a hf
    refine sY hf hs rfl rfl rfl (Y_load_blk rfl rfl (i := 1) rfl rfl ag2) ?_; clear hf; intro a hf
    refine sY hf hs rfl rfl rfl (Y_neq rfl rfl rfl) ?_; clear hf; intro a hf
    refine wpO_nil ?_
    refine wpL_cond hf rfl (fun hb4 => ?_) (fun hb4 => ?_)
    · have hm := bif_t hm hb4
      refine wpL_seq ?_
      refine wpL_region ?_
      refine sY hf hs rfl rfl rfl (Y_assign rfl rfl) ?_; clear hf; intro a hf
      refine wpO_nil ?_
      obtain rfl := Option.some.inj hm
      refine wpL_ret (ret_tmp rfl hf rfl ?_)
      exact ⟨_, rfl, rfl, hs.sel [] (by decide)⟩
    · have hm := bif_f hm hb4
      refine wpL_skip ?_
      refine wpL_seq ?_
      refine wpL_seq ?_
      refine wpL_region ?_
      refine sY hf hs rfl rfl rfl (Y_fieldAddr rfl rfl fo71_2) ?_; clear hf; intro a hf
      refine sY hf hs rfl rfl rfl (Y_load_blk rfl rfl (i := 0) rfl rfl ag2) ?_; clear hf; intro a hf
      refine sY hf hs rfl rfl rfl (Y_fieldAddr rfl rfl fo71_2) ?_; clear hf; intro a hf
      refine sY hf hs rfl rfl rfl (Y_load_blk rfl rfl (i := 1) rfl rfl ag2) ?_; clear hf; intro a hf
      refine sY hf hs rfl rfl rfl (Y_neq rfl rfl rfl) ?_; clear hf; intro a hf
      refine wpO_nil ?_
      refine wpL_cond hf rfl (fun hb5 => ?_) (fun hb5 => ?_)
      · have hm := bif_t hm hb5
        refine wpL_seq ?_
        refine wpL_region ?_
        refine sY hf hs rfl rfl rfl (Y_assign rfl rfl) ?_; clear hf; intro a hf
        refine wpO_nil ?_
        obtain rfl := Option.some.inj hm
        refine wpL_ret (ret_tmp rfl hf rfl ?_)
        exact ⟨_, rfl, rfl, hs.sel [] (by decide)⟩
      · have hm := bif_f hm hb5
        refine wpL_skip ?_
        refine wpL_seq ?_
        refine wpL_seq ?_
        refine wpL_region ?_
        refine sY hf hs rfl rfl rfl (Y_fieldAddr rfl rfl fo71_3) ?_; clear hf; intro a hf
        refine sY hf hs rfl rfl rfl (Y_load_blk rfl rfl (i := 0) rfl rfl ag2) ?_; clear hf; intro a hf
        refine sY hf hs rfl rfl rfl (Y_fieldAddr rfl rfl fo71_3) ?_; clear hf; intro a hf
        refine sY hf hs rfl rfl rfl (Y_load_blk rfl rfl (i := 1) rfl rfl ag2) ?_; clear hf; intro a hf
        refine sY hf hs rfl rfl rfl (Y_neq rfl rfl rfl) ?_; clear hf; intro a hf
        refine wpO_nil ?_
        refine wpL_cond hf rfl (fun hb6 => ?_) (fun hb6 => ?_)
        · have hm := bif_t hm hb6
          refine wpL_seq ?_
          refine wpL_region ?_
          refine sY hf hs rfl rfl rfl (Y_assign rfl rfl) ?_; clear hf; intro a hf
          refine wpO_nil ?_
          obtain rfl := Option.some.inj hm
          refine wpL_ret (ret_tmp rfl hf rfl ?_)
          exact ⟨_, rfl, rfl, hs.sel [] (by decide)⟩
        · have hm := bif_f hm hb6
          refine wpL_skip ?_
          refine wpL_seq ?_
          refine wpL_region ?_
          refine sY hf hs rfl rfl rfl (Y_assign rfl rfl) ?_; clear hf; intro a hf
          refine wpO_nil ?_
          obtain rfl := Option.some.inj hm
          refine wpL_ret (ret_tmp rfl hf rfl ?_)
          exact ⟨_, rfl, rfl, hs.sel [] (by decide)⟩

set_option maxRecDepth 100000 in
theorem laws_eqPlaceS_ok (F : Nat) (p0_a : List GPlace) (A_p0_a_1 : Option Addr) (n_p0_a_1 c_p0_a_1 : Nat) (hn_p0_a_1 : n_p0_a_1 = p0_a.length) (p1_b : List GPlace) (A_p1_b_1 : Option Addr) (n_p1_b_1 c_p1_b_1 : Nat) (hn_p1_b_1 : n_p1_b_1 = p1_b.length) (r : Bool) (W : World) (hm : laws_eqPlaceS F p0_a p1_b = some r) (h_p0_a_1 : Rd W A_p0_a_1 ((recs GPlace.cells) p0_a)) (h_p1_b_1 : Rd W A_p1_b_1 ((recs GPlace.cells) p1_b)) :
    Calls Try.prog 67 [.slice A_p0_a_1 n_p0_a_1 c_p0_a_1, .slice A_p1_b_1 n_p1_b_1 c_p1_b_1].toArray W fun e w' => ∃ v, e = .returned v ∧ v = .bool r ∧ St [] W w' [] := by
  subst hn_p0_a_1
  subst hn_p1_b_1
  unfold laws_eqPlaceS at hm
  refine Calls.enter (N := 27) Try.func67 rfl rfl rfl (fun a hf => ?_)
  have hs := St.start W
  obtain ⟨w, hw_⟩ : ∃ w, w = W := ⟨W, rfl⟩
  clear hw_ w
  refine wpL_seq ?_
  refine wpL_region ?_
  refine sY hf hs rfl rfl rfl (Y_assign rfl rfl) ?_; clear hf; intro a hf
  refine wpO_nil ?_
  refine wpL_seq ?_
  refine wpL_seq ?_
  refine wpL_region ?_
  refine sY hf hs rfl rfl rfl (Y_move rfl rfl) ?_; clear hf; intro a hf
  refine sY hf hs rfl rfl rfl (Y_lenH rfl rfl el32 rfl) ?_; clear hf; intro a hf
  refine sY hf hs rfl rfl rfl (Y_move rfl rfl) ?_; clear hf; intro a hf
  refine sY hf hs rfl rfl rfl (Y_lenH rfl rfl el32 rfl) ?_; clear hf; intro a hf
  refine sY hf hs rfl rfl rfl (Y_neq rfl rfl rfl) ?_; clear hf; intro a hf
  refine wpO_nil ?_
  refine wpL_cond hf rfl (fun hb1 => ?_) (fun hb1 => ?_)
  · have hm := bif_t hm hb1
    refine wpL_seq ?_
    refine wpL_region ?_
    refine sY hf hs rfl rfl rfl (Y_assign rfl rfl) ?_; clear hf; intro a hf
    refine wpO_nil ?_
    obtain rfl := Option.some.inj hm
    refine wpL_ret (ret_tmp rfl hf rfl ?_)
    exact ⟨_, rfl, rfl, hs⟩
  · have hm := bif_f hm hb1
    refine wpL_skip ?_
    refine wpL_seq ?_
    refine wpL_seq ?_
    refine wpL_region ?_
    refine sY hf hs rfl rfl rfl (Y_assign rfl rfl) ?_; clear hf; intro a hf
    refine wpO_nil ?_
    obtain ⟨r28, hl29, hm⟩ := bind_some hm
    refine wpL_block (fun a w => Sum.inr () = r28 ∧ Fr a 27 [] ∧ St [] W w []) ?_ ?_
    · refine wpL_loop (fun n a w => ∃ x19 : Int, laws_eqPlaceS_L1 F p0_a p1_b n x19 = some r28 ∧ Fr a 27 [(0, .slice A_p0_a_1 p0_a.length c_p0_a_1), (1, .slice A_p1_b_1 p1_b.length c_p1_b_1), (5, .int .i64 x19)] ∧ St [] W w []) F ?_ ?_ ?_
      · exact ⟨0, hl29, (Fr.pick (Fr.pick (Fr.pick hf.none hf rfl) hf rfl) hf rfl), hs⟩
      · rintro a w ⟨x19, h0_, -, -⟩; simp [laws_eqPlaceS_L1] at h0_
      · rintro n31 a w ⟨x19, hm30, hf, hs⟩
        rw [laws_eqPlaceS_L1] at hm30
        refine wpL_seq ?_
        refine wpL_seq ?_
        refine wpL_region ?_
        refine sY hf hs rfl rfl rfl (Y_move rfl rfl) ?_; clear hf; intro a hf
        refine sY hf hs rfl rfl rfl (Y_move rfl rfl) ?_; clear hf; intro a hf
        refine sY hf hs rfl rfl rfl (Y_lenH rfl rfl el32 rfl) ?_; clear hf; intro a hf
        refine sY hf hs rfl rfl rfl (Y_lss rfl rfl rfl) ?_; clear hf; intro a hf
        refine wpO_nil ?_
        refine wpL_cond hf rfl (fun hb32 => ?_) (fun hb32 => ?_)
        · have hm30 := bif_t hm30 hb32
          refine wpL_skip ?_
          refine wpL_seq ?_
          refine wpL_block0 ?_
          refine wpL_seq ?_
          refine wpL_draw (by kernel_rfl) (by kernel_rfl) hs ?_
          refine qY hf rfl rfl rfl (Y_move rfl rfl) ?_; clear hf; intro a hf
          refine qY hf rfl rfl rfl (Y_move rfl rfl) ?_; clear hf; intro a hf
          obtain ⟨q33, hi34, hm30⟩ := bind_some hm30
          obtain ⟨hi34a, hi34b, hi34q⟩ := idx_some hi34
          refine qY hf rfl rfl rfl (Y_index rfl rfl rfl el32 ti71 (Rd.isAt (h_p0_a_1.at hs) (recs_at (s := 4) GPlace.len hi34q (j := 0) rfl)) hi34a hi34b) ?_; clear hf; intro a hf
          refine qY hf rfl rfl rfl (Y_load_rdS rfl rfl (us := [.int .i64 q33.From, .int .i64 q33.To, .int .i64 q33.Delay, .int .i64 q33.Tokens]) (fun w hs => h_p0_a_1.at hs) (fun j u hj => recs_at (s := 4) GPlace.len hi34q hj) (Nat.succ_pos _) ag71 ti71 rfl) ?_; clear hf; intro a hf
          refine qY hf rfl rfl rfl (Y_move rfl rfl) ?_; clear hf; intro a hf
          refine qY hf rfl rfl rfl (Y_move rfl rfl) ?_; clear hf; intro a hf
          obtain ⟨q35, hi36, hm30⟩ := bind_some hm30
          obtain ⟨hi36a, hi36b, hi36q⟩ := idx_some hi36
          refine qY hf rfl rfl rfl (Y_index rfl rfl rfl el32 ti71 (Rd.isAt (h_p1_b_1.at hs) (recs_at (s := 4) GPlace.len hi36q (j := 0) rfl)) hi36a hi36b) ?_; clear hf; intro a hf
          refine qY hf rfl rfl rfl (Y_load_rdS rfl rfl (us := [.int .i64 q35.From, .int .i64 q35.To, .int .i64 q35.Delay, .int .i64 q35.Tokens]) (fun w hs => h_p1_b_1.at hs) (fun j u hj => recs_at (s := 4) GPlace.len hi36q hj) (Nat.succ_pos _) ag71 ti71 rfl) ?_; clear hf; intro a hf
          obtain ⟨r37, hc38, hm30⟩ := bind_some hm30
          refine qCall hf rfl rfl rfl rfl (cap := []) rfl rfl en106 (v := .bool r37) (fun w hs => Calls.scal (laws_eqPlace_ok F q33 q35 _ _ hc38)) ?_; clear hf; intro a hf
          refine qY hf rfl rfl rfl (Y_not rfl rfl) ?_; clear hf; intro a hf
          refine qNil ?_; clear hs; intro w hs
          refine wpL_cond hf rfl (fun hb39 => ?_) (fun hb39 => ?_)
          · have hm30 := bif_t hm30 hb39
            refine wpL_seq ?_
            refine wpL_region ?_
            refine sY hf hs rfl rfl rfl (Y_assign rfl rfl) ?_; clear hf; intro a hf
            refine wpO_nil ?_
            obtain rfl := Option.some.inj hm30
            try dsimp only at hm
            obtain rfl := Option.some.inj hm
            refine wpL_ret (Qb_ret (Ql_ret (Qb_ret (ret_tmp rfl hf rfl ?_))))
            exact ⟨_, rfl, rfl, hs⟩
          · have hm30 := bif_f hm30 hb39
            refine wpL_skip ?_
            refine wpL_nil (Qb_normal ?_)
            refine wpL_region ?_
            refine sY hf hs rfl rfl rfl (Y_move rfl rfl) ?_; clear hf; intro a hf
            refine sY hf hs rfl rfl rfl (Y_add rfl rfl rfl) ?_; clear hf; intro a hf
            refine sY hf hs rfl rfl rfl (Y_assign rfl rfl) ?_; clear hf; intro a hf
            refine wpO_nil ?_
            refine wpL_nil (Ql_normal ?_)
            exact ⟨(IntKind.i64.wrap (x19 + 1)), hm30, (Fr.pick (Fr.pick (Fr.pick hf.none hf rfl) hf rfl) hf rfl), hs⟩
        · have hm30 := bif_f hm30 hb32
          refine wpL_exit (Ql_exit (Qb_exit ?_))
          exact ⟨Option.some.inj hm30, hf.none, hs⟩
    · rintro a w ⟨hr_, hf, hs⟩
      subst hr_
      try dsimp only at hm
      refine wpL_seq ?_
      refine wpL_region ?_
      refine sY hf hs rfl rfl rfl (Y_assign rfl rfl) ?_; clear hf; intro a hf
      refine wpO_nil ?_
      obtain rfl := Option.some.inj hm
      refine wpL_ret (ret_tmp rfl hf rfl ?_)
      exact ⟨_, rfl, rfl, hs⟩

set_option maxRecDepth 100000 in
theorem laws_eqEventGraph_ok (F : Nat) (p0_a : GEventGraph) (A_p0_a_1 : Option Addr) (n_p0_a_1 c_p0_a_1 : Nat) (hn_p0_a_1 : n_p0_a_1 = p0_a.Places.length) (p1_b : GEventGraph) (A_p1_b_1 : Option Addr) (n_p1_b_1 c_p1_b_1 : Nat) (hn_p1_b_1 : n_p1_b_1 = p1_b.Places.length) (r : Bool) (W : World) (hm : laws_eqEventGraph F p0_a p1_b = some r) (h_p0_a_1 : Rd W A_p0_a_1 ((recs GPlace.cells) p0_a.Places)) (h_p1_b_1 : Rd W A_p1_b_1 ((recs GPlace.cells) p1_b.Places)) :
    Calls Try.prog 21 [.agg #[.int .i64 p0_a.Events, .slice A_p0_a_1 n_p0_a_1 c_p0_a_1], .agg #[.int .i64 p1_b.Events, .slice A_p1_b_1 n_p1_b_1 c_p1_b_1]].toArray W fun e w' => ∃ v, e = .returned v ∧ v = .bool r ∧ St [] W w' [] := by
  subst hn_p0_a_1
  subst hn_p1_b_1
  unfold laws_eqEventGraph at hm
  refine Calls.enter (N := 16) Try.func21 rfl rfl rfl (fun a hf => ?_)
  have hs := St.start W
  obtain ⟨w, hw_⟩ : ∃ w, w = W := ⟨W, rfl⟩
  clear hw_ w
  refine wpL_seq ?_
  refine wpL_region ?_
  refine sBox hf hs rfl rfl rfl rfl rfl (cs := [.int .i64 p0_a.Events, .slice A_p0_a_1 p0_a.Places.length c_p0_a_1]) rfl ?_; clear hf hs; intro a w b1 hs hf
  have hs : St [] W w [.blk b1 34 [.int .i64 p0_a.Events, .slice A_p0_a_1 p0_a.Places.length c_p0_a_1]] := hs
  refine sBox hf hs rfl rfl rfl rfl rfl (cs := [.int .i64 p1_b.Events, .slice A_p1_b_1 p1_b.Places.length c_p1_b_1]) rfl ?_; clear hf hs; intro a w b2 hs hf
  have hs : St [] W w [.blk b1 34 [.int .i64 p0_a.Events, .slice A_p0_a_1 p0_a.Places.length c_p0_a_1], .blk b2 34 [.int .i64 p1_b.Events, .slice A_p1_b_1 p1_b.Places.length c_p1_b_1]] := hs
  refine sY hf hs rfl rfl rfl (Y_assign rfl rfl) ?_; clear hf; intro a hf
  refine wpO_nil ?_
  refine wpL_seq ?_
  refine wpL_seq ?_
  refine wpL_region ?_
  refine sY hf hs rfl rfl rfl (Y_fieldAddr rfl rfl fo34_0) ?_; clear hf; intro a hf
  refine sY hf hs rfl rfl rfl (Y_load_blk rfl rfl (i := 0) rfl rfl ag2) ?_; clear hf; intro a hf
  refine sY hf hs rfl rfl rfl (Y_fieldAddr rfl rfl fo34_0) ?_; clear hf; intro a hf
  refine sY hf hs rfl rfl rfl (Y_load_blk rfl rfl (i := 1) rfl rfl ag2) ?_; clear hf; intro a hf
  refine sY hf hs rfl rfl rfl (Y_neq rfl rfl rfl) ?_; clear hf; intro a hf
  refine wpO_nil ?_
  refine wpL_cond hf rfl (fun hb3 => ?_) (fun hb3 => ?_)
  · have hm := bif_t hm hb3
    refine wpL_seq ?_
    refine wpL_region ?_
    refine sY hf hs rfl rfl rfl (Y_assign rfl rfl) ?_; clear hf; intro a hf
    refine wpO_nil ?_
    obtain rfl := Option.some.inj hm
    refine wpL_ret (ret_tmp rfl hf rfl ?_)
    exact ⟨_, rfl, rfl, hs.sel [] (by decide)⟩
  · have hm := bif_f hm hb3
    refine wpL_skip ?_
    refine wpL_seq ?_
    refine wpL_seq ?_
    refine wpL_region ?_
    refine sY hf hs rfl rfl rfl (Y_fieldAddr rfl rfl fo34_1) ?_; clear hf; intro a hf
    refine sY hf hs rfl rfl rfl (Y_load_blk rfl rfl (i := 0) rfl rfl ag32) ?_; clear hf; intro a hf
    refine sY hf hs rfl rfl rfl (Y_fieldAddr rfl rfl fo34_1) ?_; clear hf; intro a hf
    refine sY hf hs rfl rfl rfl (Y_load_blk rfl rfl (i := 1) rfl rfl ag32) ?_; clear hf; intro a hf
    obtain ⟨r4, hc5, hm⟩ := bind_some hm
    refine sCall hf rfl rfl rfl rfl (cap := []) rfl rfl en67 (laws_eqPlaceS_ok F p0_a.Places A_p0_a_1 p0_a.Places.length c_p0_a_1 rfl p1_b.Places A_p1_b_1 p1_b.Places.length c_p1_b_1 rfl _ _ hc5 (h_p0_a_1.at hs) (h_p1_b_1.at hs)) ?_; clear hf
    rintro _ w ⟨rfl, hs1⟩ a hf
    have hs : St [] W w [.blk b1 34 [.int .i64 p0_a.Events, .slice A_p0_a_1 p0_a.Places.length c_p0_a_1], .blk b2 34 [.int .i64 p1_b.Events, .slice A_p1_b_1 p1_b.Places.length c_p1_b_1]] := hs.ext hs1.below
    clear hs1
    refine sY hf hs rfl rfl rfl (Y_not rfl rfl) ?_; clear hf; intro a hf
    refine wpO_nil ?_
    refine wpL_cond hf rfl (fun hb6 => ?_) (fun hb6 => ?_)
    · have hm := bif_t hm hb6
      refine wpL_seq ?_
      refine wpL_region ?_
      refine sY hf hs rfl rfl rfl (Y_assign rfl rfl) ?_; clear hf; intro a hf
      refine wpO_nil ?_
      obtain rfl := Option.some.inj hm
      refine wpL_ret (ret_tmp rfl hf rfl ?_)
      exact ⟨_, rfl, rfl, hs.sel [] (by decide)⟩
    · have hm := bif_f hm hb6
      refine wpL_skip ?_
      refine wpL_seq ?_
      refine wpL_region ?_
      refine sY hf hs rfl rfl rfl (Y_assign rfl rfl) ?_; clear hf; intro a hf
      refine wpO_nil ?_
      obtain rfl := Option.some.inj hm
      refine wpL_ret (ret_tmp rfl hf rfl ?_)
      exact ⟨_, rfl, rfl, hs.sel [] (by decide)⟩

set_option maxRecDepth 100000 in
theorem laws_eqTimetable_ok (F : Nat) (p0_a : GTimetable) (A_p0_a_1 : Option Addr) (n_p0_a_1 c_p0_a_1 : Nat) (hn_p0_a_1 : n_p0_a_1 = p0_a.Starts.length) (p1_b : GTimetable) (A_p1_b_1 : Option Addr) (n_p1_b_1 c_p1_b_1 : Nat) (hn_p1_b_1 : n_p1_b_1 = p1_b.Starts.length) (r : Bool) (W : World) (hm : laws_eqTimetable F p0_a p1_b = some r) (h_p0_a_1 : Rd W A_p0_a_1 (ints p0_a.Starts)) (h_p1_b_1 : Rd W A_p1_b_1 (ints p1_b.Starts)) :
    Calls Try.prog 22 [.agg #[.int .i64 p0_a.Period, .slice A_p0_a_1 n_p0_a_1 c_p0_a_1], .agg #[.int .i64 p1_b.Period, .slice A_p1_b_1 n_p1_b_1 c_p1_b_1]].toArray W fun e w' => ∃ v, e = .returned v ∧ v = .bool r ∧ St [] W w' [] := by
  subst hn_p0_a_1
  subst hn_p1_b_1
  unfold laws_eqTimetable at hm
  refine Calls.enter (N := 16) Try.func22 rfl rfl rfl (fun a hf => ?_)
  have hs := St.start W
  obtain ⟨w, hw_⟩ : ∃ w, w = W := ⟨W, rfl⟩
  clear hw_ w
  refine wpL_seq ?_
  refine wpL_region ?_
  refine sBox hf hs rfl rfl rfl rfl rfl (cs := [.int .i64 p0_a.Period, .slice A_p0_a_1 p0_a.Starts.length c_p0_a_1]) rfl ?_; clear hf hs; intro a w b1 hs hf
  have hs : St [] W w [.blk b1 36 [.int .i64 p0_a.Period, .slice A_p0_a_1 p0_a.Starts.length c_p0_a_1]] := hs
  refine sBox hf hs rfl rfl rfl rfl rfl (cs := [.int .i64 p1_b.Period, .slice A_p1_b_1 p1_b.Starts.length c_p1_b_1]) rfl ?_; clear hf hs; intro a w b2 hs hf
  have hs : St [] W w [.blk b1 36 [.int .i64 p0_a.Period, .slice A_p0_a_1 p0_a.Starts.length c_p0_a_1], .blk b2 36 [.int .i64 p1_b.Period, .slice A_p1_b_1 p1_b.Starts.length c_p1_b_1]] := hs
  refine sY hf hs rfl rfl rfl (Y_assign rfl rfl) ?_; clear hf; intro a hf
  refine wpO_nil ?_
  refine wpL_seq ?_
  refine wpL_seq ?_
  refine wpL_region ?_
  refine sY hf hs rfl rfl rfl (Y_fieldAddr rfl rfl fo36_0) ?_; clear hf; intro a hf
  refine sY hf hs rfl rfl rfl (Y_load_blk rfl rfl (i := 0) rfl rfl ag2) ?_; clear hf; intro a hf
  refine sY hf hs rfl rfl rfl (Y_fieldAddr rfl rfl fo36_0) ?_; clear hf; intro a hf
  refine sY hf hs rfl rfl rfl (Y_load_blk rfl rfl (i := 1) rfl rfl ag2) ?_; clear hf; intro a hf
  refine sY hf hs rfl rfl rfl (Y_neq rfl rfl rfl) ?_; clear hf; intro a hf
  refine wpO_nil ?_
  refine wpL_cond hf rfl (fun hb3 => ?_) (fun hb3 => ?_)
  · have hm := bif_t hm hb3
    refine wpL_seq ?_
    refine wpL_region ?_
    refine sY hf hs rfl rfl rfl (Y_assign rfl rfl) ?_; clear hf; intro a hf
    refine wpO_nil ?_
    obtain rfl := Option.some.inj hm
    refine wpL_ret (ret_tmp rfl hf rfl ?_)
    exact ⟨_, rfl, rfl, hs.sel [] (by decide)⟩
  · have hm := bif_f hm hb3
    refine wpL_skip ?_
    refine wpL_seq ?_
    refine wpL_seq ?_
    refine wpL_region ?_
    refine sY hf hs rfl rfl rfl (Y_fieldAddr rfl rfl fo36_1) ?_; clear hf; intro a hf
    refine sY hf hs rfl rfl rfl (Y_load_blk rfl rfl (i := 0) rfl rfl ag25) ?_; clear hf; intro a hf
    refine sY hf hs rfl rfl rfl (Y_fieldAddr rfl rfl fo36_1) ?_; clear hf; intro a hf
    refine sY hf hs rfl rfl rfl (Y_load_blk rfl rfl (i := 1) rfl rfl ag25) ?_; clear hf; intro a hf
    obtain ⟨r4, hc5, hm⟩ := bind_some hm
    refine sCall hf rfl rfl rfl rfl (cap := []) rfl rfl en34 (laws_eqInt64S_ok F p0_a.Starts A_p0_a_1 p0_a.Starts.length c_p0_a_1 rfl p1_b.Starts A_p1_b_1 p1_b.Starts.length c_p1_b_1 rfl _ _ hc5 (h_p0_a_1.at hs) (h_p1_b_1.at hs)) ?_; clear hf
    rintro _ w ⟨rfl, hs1⟩ a hf
    have hs : St [] W w [.blk b1 36 [.int .i64 p0_a.Period, .slice A_p0_a_1 p0_a.Starts.length c_p0_a_1], .blk b2 36 [.int .i64 p1_b.Period, .slice A_p1_b_1 p1_b.Starts.length c_p1_b_1]] := hs.ext hs1.below
    clear hs1
    refine sY hf hs rfl rfl rfl (Y_not rfl rfl) ?_; clear hf; intro a hf
    refine wpO_nil ?_
    refine wpL_cond hf rfl (fun hb6 => ?_) (fun hb6 => ?_)
    · have hm := bif_t hm hb6
      refine wpL_seq ?_
      refine wpL_region ?_
      refine sY hf hs rfl rfl rfl (Y_assign rfl rfl) ?_; clear hf; intro a hf
      refine wpO_nil ?_
      obtain rfl := Option.some.inj hm
      refine wpL_ret (ret_tmp rfl hf rfl ?_)
      exact ⟨_, rfl, rfl, hs.sel [] (by decide)⟩
    · have hm := bif_f hm hb6
      refine wpL_skip ?_
      refine wpL_seq ?_
      refine wpL_region ?_
      refine sY hf hs rfl rfl rfl (Y_assign rfl rfl) ?_; clear hf; intro a hf
      refine wpO_nil ?_
      obtain rfl := Option.some.inj hm
      refine wpL_ret (ret_tmp rfl hf rfl ?_)
      exact ⟨_, rfl, rfl, hs.sel [] (by decide)⟩

set_option maxRecDepth 100000 in
theorem laws_markPlaceS_ok (F : Nat) (p0_a : List GPlace) (A_p0_a_1 : Option Addr) (n_p0_a_1 c_p0_a_1 : Nat) (hn_p0_a_1 : n_p0_a_1 = p0_a.length) (p1_k : Int) (r : (Int) × List GPlace) (W : World) (hm : laws_markPlaceS F p0_a p1_k = some r) (h_p0_a_1 : (Res.row A_p0_a_1 n_p0_a_1 c_p0_a_1 71 4 ((recs GPlace.cells) p0_a) : Res).holds 0 W) :
    Calls Try.prog 75 [.slice A_p0_a_1 n_p0_a_1 c_p0_a_1, .int .i64 p1_k].toArray W fun e w' => ∃ v, e = .returned v ∧ v = .int .i64 r.1 ∧ n_p0_a_1 = r.2.length ∧ St (muA A_p0_a_1) W w' [.row A_p0_a_1 n_p0_a_1 c_p0_a_1 71 4 ((recs GPlace.cells) r.2)] := by
  subst hn_p0_a_1
  unfold laws_markPlaceS at hm
  refine Calls.enter (N := 41) Try.func75 rfl rfl rfl (fun a hf => ?_)
  have hs : St (muA A_p0_a_1) W W [.row A_p0_a_1 p0_a.length c_p0_a_1 71 4 ((recs GPlace.cells) p0_a)] := St.startMut h_p0_a_1 (fun b hb => mem_muA hb)
  obtain ⟨w, hw_⟩ : ∃ w, w = W := ⟨W, rfl⟩
  clear hw_ w
  refine wpL_seq ?_
  refine wpL_region ?_
  refine sY hf hs rfl rfl rfl (Y_assign rfl rfl) ?_; clear hf; intro a hf
  refine wpO_nil ?_
  refine wpL_seq ?_
  refine wpL_seq ?_
  refine wpL_region ?_
  refine sY hf hs rfl rfl rfl (Y_assign rfl rfl) ?_; clear hf; intro a hf
  refine wpO_nil ?_
  obtain ⟨r63, hl64, hm⟩ := bind_some hm
  refine wpL_block (fun a w => ∃ xs60 : List GPlace, ∃ x62 : Int, (xs60, x62) = r63 ∧ p0_a.length = xs60.length ∧ Fr a 41 [(1, .int .i64 x62)] ∧ St (muA A_p0_a_1) W w [.row A_p0_a_1 p0_a.length c_p0_a_1 71 4 ((recs GPlace.cells) xs60)]) ?_ ?_
  · refine wpL_loop (fun n a w => ∃ xs39 : List GPlace, ∃ x41 : Int, ∃ x42 : Int, laws_markPlaceS_L1 F n xs39 x41 x42 = some r63 ∧ p0_a.length = xs39.length ∧ Fr a 41 [(0, .slice A_p0_a_1 p0_a.length c_p0_a_1), (1, .int .i64 x41), (5, .int .i64 x42)] ∧ St (muA A_p0_a_1) W w [.row A_p0_a_1 p0_a.length c_p0_a_1 71 4 ((recs GPlace.cells) xs39)]) F ?_ ?_ ?_
    · exact ⟨p0_a, p1_k, 0, hl64, rfl, (Fr.pick (Fr.pick (Fr.pick hf.none hf rfl) hf rfl) hf rfl), hs⟩
    · rintro a w ⟨xs39, x41, x42, h0_, -, -, -⟩; simp [laws_markPlaceS_L1] at h0_
    · rintro n66 a w ⟨xs39, x41, x42, hm65, hn40, hf, hs⟩
      rw [laws_markPlaceS_L1] at hm65
      refine wpL_seq ?_
      refine wpL_seq ?_
      refine wpL_region ?_
      refine sY hf hs rfl rfl rfl (Y_move rfl rfl) ?_; clear hf; intro a hf
      refine sY hf hs rfl rfl rfl (Y_move rfl rfl) ?_; clear hf; intro a hf
      refine sY hf hs rfl rfl rfl (Y_lenH rfl rfl el32 hn40) ?_; clear hf; intro a hf
      refine sY hf hs rfl rfl rfl (Y_lss rfl rfl rfl) ?_; clear hf; intro a hf
      refine wpO_nil ?_
      refine wpL_cond hf rfl (fun hb67 => ?_) (fun hb67 => ?_)
      · have hm65 := bif_t hm65 hb67
        refine wpL_skip ?_
        refine wpL_seq ?_
        refine wpL_block0 ?_
        refine wpL_seq ?_
        refine wpL_region ?_
        refine sY hf hs rfl rfl rfl (Y_move rfl rfl) ?_; clear hf; intro a hf
        refine sY hf hs rfl rfl rfl (Y_move rfl rfl) ?_; clear hf; intro a hf
        refine sY hf hs rfl rfl rfl (Y_move rfl rfl) ?_; clear hf; intro a hf
        obtain ⟨q68, hi69, hm65⟩ := bind_some hm65
        obtain ⟨hi69a, hi69b, hi69q⟩ := idx_some hi69
        refine sY hf hs rfl rfl rfl (Y_index rfl rfl rfl el32 ti71 (Rd.isAt (hs.rd (i := 0) rfl) (recs_at (s := 4) GPlace.len hi69q (j := 0) rfl)) hi69a (ltn hn40 hi69b)) ?_; clear hf; intro a hf
        refine sY hf hs rfl rfl rfl (Y_fieldAddrE rfl rfl fo71_0) ?_; clear hf; intro a hf
        obtain ⟨xs70, hu71, hm65⟩ := bind_some hm65
        refine sStoreF (i := 0) (s := 4) (fo := 0) (f := GPlace.cells) (x' := (GPlace.mk x41 q68.To q68.Delay q68.Tokens)) hf hs rfl rfl rfl rfl rfl rfl hi69q hu71 ti2 rfl rfl rfl GPlace.len rfl rfl ?_; clear hs; intro w hs
        have hs : St (muA A_p0_a_1) W w [.row A_p0_a_1 p0_a.length c_p0_a_1 71 4 ((recs GPlace.cells) xs70)] := hs
        refine wpO_nil ?_
        refine wpL_seq ?_
        refine wpL_region ?_
        refine sY hf hs rfl rfl rfl (Y_move rfl rfl) ?_; clear hf; intro a hf
        refine sY hf hs rfl rfl rfl (Y_add rfl rfl rfl) ?_; clear hf; intro a hf
        refine sY hf hs rfl rfl rfl (Y_assign rfl rfl) ?_; clear hf; intro a hf
        refine wpO_nil ?_
        refine wpL_seq ?_
        refine wpL_region ?_
        refine sY hf hs rfl rfl rfl (Y_move rfl rfl) ?_; clear hf; intro a hf
        refine sY hf hs rfl rfl rfl (Y_move rfl rfl) ?_; clear hf; intro a hf
        refine sY hf hs rfl rfl rfl (Y_move rfl rfl) ?_; clear hf; intro a hf
        obtain ⟨q72, hi73, hm65⟩ := bind_some hm65
        obtain ⟨hi73a, hi73b, hi73q⟩ := idx_some hi73
        refine sY hf hs rfl rfl rfl (Y_index rfl rfl rfl el32 ti71 (Rd.isAt (hs.rd (i := 0) rfl) (recs_at (s := 4) GPlace.len hi73q (j := 0) rfl)) hi73a (ltn ((hn40).trans (upd_len hu71).symm) hi73b)) ?_; clear hf; intro a hf
        refine sY hf hs rfl rfl rfl (Y_fieldAddrE rfl rfl fo71_1) ?_; clear hf; intro a hf
        obtain ⟨xs74, hu75, hm65⟩ := bind_some hm65
        refine sStoreF (i := 0) (s := 4) (fo := 1) (f := GPlace.cells) (x' := (GPlace.mk q72.From (IntKind.i64.wrap (x41 + 1)) q72.Delay q72.Tokens)) hf hs rfl rfl rfl rfl rfl rfl hi73q hu75 ti2 rfl rfl rfl GPlace.len rfl rfl ?_; clear hs; intro w hs
        have hs : St (muA A_p0_a_1) W w [.row A_p0_a_1 p0_a.length c_p0_a_1 71 4 ((recs GPlace.cells) xs74)] := hs
        refine wpO_nil ?_
        refine wpL_seq ?_
        refine wpL_region ?_
        refine sY hf hs rfl rfl rfl (Y_move rfl rfl) ?_; clear hf; intro a hf
        refine sY hf hs rfl rfl rfl (Y_add rfl rfl rfl) ?_; clear hf; intro a hf
        refine sY hf hs rfl rfl rfl (Y_assign rfl rfl) ?_; clear hf; intro a hf
        refine wpO_nil ?_
        refine wpL_seq ?_
        refine wpL_region ?_
        refine sY hf hs rfl rfl rfl (Y_move rfl rfl) ?_; clear hf; intro a hf
        refine sY hf hs rfl rfl rfl (Y_move rfl rfl) ?_; clear hf; intro a hf
        refine sY hf hs rfl rfl rfl (Y_move rfl rfl) ?_; clear hf; intro a hf
        obtain ⟨q76, hi77, hm65⟩ := bind_some hm65
        obtain ⟨hi77a, hi77b, hi77q⟩ := idx_some hi77
        refine sY hf hs rfl rfl rfl (Y_index rfl rfl rfl el32 ti71 (Rd.isAt (hs.rd (i := 0) rfl) (recs_at (s := 4) GPlace.len hi77q (j := 0) rfl)) hi77a (ltn ((((hn40).trans (upd_len hu71).symm)).trans (upd_len hu75).symm) hi77b)) ?_; clear hf; intro a hf
        refine sY hf hs rfl rfl rfl (Y_fieldAddrE rfl rfl fo71_2) ?_; clear hf; intro a hf
        obtain ⟨xs78, hu79, hm65⟩ := bind_some hm65
        refine sStoreF (i := 0) (s := 4) (fo := 2) (f := GPlace.cells) (x' := (GPlace.mk q76.From q76.To (IntKind.i64.wrap ((IntKind.i64.wrap (x41 + 1)) + 1)) q76.Tokens)) hf hs rfl rfl rfl rfl rfl rfl hi77q hu79 ti2 rfl rfl rfl GPlace.len rfl rfl ?_; clear hs; intro w hs
        have hs : St (muA A_p0_a_1) W w [.row A_p0_a_1 p0_a.length c_p0_a_1 71 4 ((recs GPlace.cells) xs78)] := hs
        refine wpO_nil ?_
        refine wpL_seq ?_
        refine wpL_region ?_
        refine sY hf hs rfl rfl rfl (Y_move rfl rfl) ?_; clear hf; intro a hf
        refine sY hf hs rfl rfl rfl (Y_add rfl rfl rfl) ?_; clear hf; intro a hf
        refine sY hf hs rfl rfl rfl (Y_assign rfl rfl) ?_; clear hf; intro a hf
        refine wpO_nil ?_
        refine wpL_seq ?_
        refine wpL_region ?_
        refine sY hf hs rfl rfl rfl (Y_move rfl rfl) ?_; clear hf; intro a hf
        refine sY hf hs rfl rfl rfl (Y_move rfl rfl) ?_; clear hf; intro a hf
        refine sY hf hs rfl rfl rfl (Y_move rfl rfl) ?_; clear hf; intro a hf
        obtain ⟨q80, hi81, hm65⟩ := bind_some hm65
        obtain ⟨hi81a, hi81b, hi81q⟩ := idx_some hi81
        refine sY hf hs rfl rfl rfl (Y_index rfl rfl rfl el32 ti71 (Rd.isAt (hs.rd (i := 0) rfl) (recs_at (s := 4) GPlace.len hi81q (j := 0) rfl)) hi81a (ltn ((((((hn40).trans (upd_len hu71).symm)).trans (upd_len hu75).symm)).trans (upd_len hu79).symm) hi81b)) ?_; clear hf; intro a hf
        refine sY hf hs rfl rfl rfl (Y_fieldAddrE rfl rfl fo71_3) ?_; clear hf; intro a hf
        obtain ⟨xs82, hu83, hm65⟩ := bind_some hm65
        refine sStoreF (i := 0) (s := 4) (fo := 3) (f := GPlace.cells) (x' := (GPlace.mk q80.From q80.To q80.Delay (IntKind.i64.wrap ((IntKind.i64.wrap ((IntKind.i64.wrap (x41 + 1)) + 1)) + 1)))) hf hs rfl rfl rfl rfl rfl rfl hi81q hu83 ti2 rfl rfl rfl GPlace.len rfl rfl ?_; clear hs; intro w hs
        have hs : St (muA A_p0_a_1) W w [.row A_p0_a_1 p0_a.length c_p0_a_1 71 4 ((recs GPlace.cells) xs82)] := hs
        refine wpO_nil ?_
        refine wpL_region ?_
        refine sY hf hs rfl rfl rfl (Y_move rfl rfl) ?_; clear hf; intro a hf
        refine sY hf hs rfl rfl rfl (Y_add rfl rfl rfl) ?_; clear hf; intro a hf
        refine sY hf hs rfl rfl rfl (Y_assign rfl rfl) ?_; clear hf; intro a hf
        refine wpO_nil ?_
        refine wpL_nil (Qb_normal ?_)
        refine wpL_region ?_
        refine sY hf hs rfl rfl rfl (Y_move rfl rfl) ?_; clear hf; intro a hf
        refine sY hf hs rfl rfl rfl (Y_add rfl rfl rfl) ?_; clear hf; intro a hf
        refine sY hf hs rfl rfl rfl (Y_assign rfl rfl) ?_; clear hf; intro a hf
        refine wpO_nil ?_
        refine wpL_nil (Ql_normal ?_)
        exact ⟨xs82, (IntKind.i64.wrap ((IntKind.i64.wrap ((IntKind.i64.wrap ((IntKind.i64.wrap (x41 + 1)) + 1)) + 1)) + 1)), (IntKind.i64.wrap (x42 + 1)), hm65, ((((((((hn40).trans (upd_len hu71).symm)).trans (upd_len hu75).symm)).trans (upd_len hu79).symm)).trans (upd_len hu83).symm), (Fr.pick (Fr.pick (Fr.pick hf.none hf rfl) hf rfl) hf rfl), hs⟩
      · have hm65 := bif_f hm65 hb67
        refine wpL_exit (Ql_exit (Qb_exit ?_))
        exact ⟨xs39, x41, Option.some.inj hm65, hn40, (Fr.pick hf.none hf rfl), hs⟩
  · rintro a w ⟨xs60, x62, hr_, hn61, hf, hs⟩
    subst hr_
    try dsimp only at hm
    refine wpL_seq ?_
    refine wpL_region ?_
    refine sY hf hs rfl rfl rfl (Y_move rfl rfl) ?_; clear hf; intro a hf
    refine sY hf hs rfl rfl rfl (Y_assign rfl rfl) ?_; clear hf; intro a hf
    refine wpO_nil ?_
    obtain rfl := Option.some.inj hm
    refine wpL_ret (ret_tmp rfl hf rfl ?_)
    exact ⟨_, rfl, rfl, hn61, hs⟩

set_option maxRecDepth 100000 in
theorem laws_markEventGraph_ok (F : Nat) (p0_a : GEventGraph) (A_p0_a_1 : Option Addr) (n_p0_a_1 c_p0_a_1 : Nat) (hn_p0_a_1 : n_p0_a_1 = p0_a.Places.length) (p1_k : Int) (r : (Int) × List GPlace) (W : World) (hm : laws_markEventGraph F p0_a p1_k = some r) (h_p0_a_1 : (Res.row A_p0_a_1 n_p0_a_1 c_p0_a_1 71 4 ((recs GPlace.cells) p0_a.Places) : Res).holds 0 W) :
    Calls Try.prog 28 [.agg #[.int .i64 p0_a.Events, .slice A_p0_a_1 n_p0_a_1 c_p0_a_1], .int .i64 p1_k].toArray W fun e w' => ∃ v, e = .returned v ∧ v = .int .i64 r.1 ∧ n_p0_a_1 = r.2.length ∧ St (muA A_p0_a_1) W w' [.row A_p0_a_1 n_p0_a_1 c_p0_a_1 71 4 ((recs GPlace.cells) r.2)] := by
  subst hn_p0_a_1
  unfold laws_markEventGraph at hm
  refine Calls.enter (N := 10) Try.func28 rfl rfl rfl (fun a hf => ?_)
  have hs : St (muA A_p0_a_1) W W [.row A_p0_a_1 p0_a.Places.length c_p0_a_1 71 4 ((recs GPlace.cells) p0_a.Places)] := St.startMut h_p0_a_1 (fun b hb => mem_muA hb)
  obtain ⟨w, hw_⟩ : ∃ w, w = W := ⟨W, rfl⟩
  clear hw_ w
  refine wpL_seq ?_
  refine wpL_region ?_
  refine sBox hf hs rfl rfl rfl rfl rfl (cs := [.int .i64 p0_a.Events, .slice A_p0_a_1 p0_a.Places.length c_p0_a_1]) rfl ?_; clear hf hs; intro a w b1 hs hf
  have hs : St (muA A_p0_a_1) W w [.row A_p0_a_1 p0_a.Places.length c_p0_a_1 71 4 ((recs GPlace.cells) p0_a.Places), .blk b1 34 [.int .i64 p0_a.Events, .slice A_p0_a_1 p0_a.Places.length c_p0_a_1]] := hs
  refine sY hf hs rfl rfl rfl (Y_assign rfl rfl) ?_; clear hf; intro a hf
  refine wpO_nil ?_
  refine wpL_seq ?_
  refine wpL_region ?_
  refine sY hf hs rfl rfl rfl (Y_fieldAddr rfl rfl fo34_1) ?_; clear hf; intro a hf
  refine sY hf hs rfl rfl rfl (Y_load_blk rfl rfl (i := 1) rfl rfl ag32) ?_; clear hf; intro a hf
  refine sY hf hs rfl rfl rfl (Y_move rfl rfl) ?_; clear hf; intro a hf
  obtain ⟨r2, hc3, hm⟩ := bind_some hm
  refine sCall hf rfl rfl rfl rfl (cap := []) rfl rfl en75 (laws_markPlaceS_ok F p0_a.Places A_p0_a_1 p0_a.Places.length c_p0_a_1 rfl p1_k _ _ hc3 (hs.res _ _ (show _[0]? = some _ from rfl))) ?_; clear hf
  rintro _ w ⟨rfl, hn4, hs1⟩ a hf
  have hs : St (muA A_p0_a_1) W w [.row A_p0_a_1 p0_a.Places.length c_p0_a_1 71 4 ((recs GPlace.cells) r2.2), .blk b1 34 [.int .i64 p0_a.Events, .slice A_p0_a_1 p0_a.Places.length c_p0_a_1]] := hs.mut (i := 0) rfl (fun b hb => muA_mem hb) hs1
  clear hs1
  refine sY hf hs rfl rfl rfl (Y_assign rfl rfl) ?_; clear hf; intro a hf
  refine wpO_nil ?_
  refine wpL_seq ?_
  refine wpL_region ?_
  refine sY hf hs rfl rfl rfl (Y_move rfl rfl) ?_; clear hf; intro a hf
  refine sY hf hs rfl rfl rfl (Y_assign rfl rfl) ?_; clear hf; intro a hf
  refine wpO_nil ?_
  obtain rfl := Option.some.inj hm
  refine wpL_ret (ret_tmp rfl hf rfl ?_)
  exact ⟨_, rfl, rfl, hn4, hs.sel [0] (by decide)⟩

set_option maxRecDepth 100000 in
theorem laws_markInt64S_ok (F : Nat) (p0_a : List Int) (A_p0_a_1 : Option Addr) (n_p0_a_1 c_p0_a_1 : Nat) (hn_p0_a_1 : n_p0_a_1 = p0_a.length) (p1_k : Int) (r : (Int) × List Int) (W : World) (hm : laws_markInt64S F p0_a p1_k = some r) (h_p0_a_1 : (Res.row A_p0_a_1 n_p0_a_1 c_p0_a_1 2 1 (ints p0_a) : Res).holds 0 W) :
    Calls Try.prog 38 [.slice A_p0_a_1 n_p0_a_1 c_p0_a_1, .int .i64 p1_k].toArray W fun e w' => ∃ v, e = .returned v ∧ v = .int .i64 r.1 ∧ n_p0_a_1 = r.2.length ∧ St (muA A_p0_a_1) W w' [.row A_p0_a_1 n_p0_a_1 c_p0_a_1 2 1 (ints r.2)] := by
  subst hn_p0_a_1
  unfold laws_markInt64S at hm
  refine Calls.enter (N := 19) Try.func38 rfl rfl rfl (fun a hf => ?_)
  have hs : St (muA A_p0_a_1) W W [.row A_p0_a_1 p0_a.length c_p0_a_1 2 1 (ints p0_a)] := St.startMut h_p0_a_1 (fun b hb => mem_muA hb)
  obtain ⟨w, hw_⟩ : ∃ w, w = W := ⟨W, rfl⟩
  clear hw_ w
  refine wpL_seq ?_
  refine wpL_region ?_
  refine sY hf hs rfl rfl rfl (Y_assign rfl rfl) ?_; clear hf; intro a hf
  refine wpO_nil ?_
  refine wpL_seq ?_
  refine wpL_seq ?_
  refine wpL_region ?_
  refine sY hf hs rfl rfl rfl (Y_assign rfl rfl) ?_; clear hf; intro a hf
  refine wpO_nil ?_
  obtain ⟨r27, hl28, hm⟩ := bind_some hm
  refine wpL_block (fun a w => ∃ xs24 : List Int, ∃ x26 : Int, (xs24, x26) = r27 ∧ p0_a.length = xs24.length ∧ Fr a 19 [(1, .int .i64 x26)] ∧ St (muA A_p0_a_1) W w [.row A_p0_a_1 p0_a.length c_p0_a_1 2 1 (ints xs24)]) ?_ ?_
  · refine wpL_loop (fun n a w => ∃ xs15 : List Int, ∃ x17 : Int, ∃ x18 : Int, laws_markInt64S_L1 F n xs15 x17 x18 = some r27 ∧ p0_a.length = xs15.length ∧ Fr a 19 [(0, .slice A_p0_a_1 p0_a.length c_p0_a_1), (1, .int .i64 x17), (5, .int .i64 x18)] ∧ St (muA A_p0_a_1) W w [.row A_p0_a_1 p0_a.length c_p0_a_1 2 1 (ints xs15)]) F ?_ ?_ ?_
    · exact ⟨p0_a, p1_k, 0, hl28, rfl, (Fr.pick (Fr.pick (Fr.pick hf.none hf rfl) hf rfl) hf rfl), hs⟩
    · rintro a w ⟨xs15, x17, x18, h0_, -, -, -⟩; simp [laws_markInt64S_L1] at h0_
    · rintro n30 a w ⟨xs15, x17, x18, hm29, hn16, hf, hs⟩
      rw [laws_markInt64S_L1] at hm29
      refine wpL_seq ?_
      refine wpL_seq ?_
      refine wpL_region ?_
      refine sY hf hs rfl rfl rfl (Y_move rfl rfl) ?_; clear hf; intro a hf
      refine sY hf hs rfl rfl rfl (Y_move rfl rfl) ?_; clear hf; intro a hf
      refine sY hf hs rfl rfl rfl (Y_lenH rfl rfl el25 hn16) ?_; clear hf; intro a hf
      refine sY hf hs rfl rfl rfl (Y_lss rfl rfl rfl) ?_; clear hf; intro a hf
      refine wpO_nil ?_
      refine wpL_cond hf rfl (fun hb31 => ?_) (fun hb31 => ?_)
      · have hm29 := bif_t hm29 hb31
        refine wpL_skip ?_
        refine wpL_seq ?_
        refine wpL_block0 ?_
        refine wpL_seq ?_
        refine wpL_region ?_
        refine sY hf hs rfl rfl rfl (Y_move rfl rfl) ?_; clear hf; intro a hf
        refine sY hf hs rfl rfl rfl (Y_move rfl rfl) ?_; clear hf; intro a hf
        refine sY hf hs rfl rfl rfl (Y_move rfl rfl) ?_; clear hf; intro a hf
        obtain ⟨q32, hi33, hm29⟩ := bind_some hm29
        obtain ⟨hi33a, hi33b, hi33q⟩ := idx_some hi33
        refine sY hf hs rfl rfl rfl (Y_index rfl rfl rfl el25 ti2 (Rd.isAt (hs.rd (i := 0) rfl) (at1 (ints_at hi33q))) hi33a (ltn hn16 hi33b)) ?_; clear hf; intro a hf
        obtain ⟨xs34, hu35, hm29⟩ := bind_some hm29
        refine sStoreL (i := 0) (us := [.int .i64 x17]) (enc := ints) hf hs rfl rfl rfl rfl rfl rfl hn16 hu35 ti2 rfl rfl rfl rfl rfl ints_len1 (ints_set x17) ?_; clear hs; intro w hs
        have hs : St (muA A_p0_a_1) W w [.row A_p0_a_1 p0_a.length c_p0_a_1 2 1 (ints xs34)] := hs
        refine wpO_nil ?_
        refine wpL_region ?_
        refine sY hf hs rfl rfl rfl (Y_move rfl rfl) ?_; clear hf; intro a hf
        refine sY hf hs rfl rfl rfl (Y_add rfl rfl rfl) ?_; clear hf; intro a hf
        refine sY hf hs rfl rfl rfl (Y_assign rfl rfl) ?_; clear hf; intro a hf
        refine wpO_nil ?_
        refine wpL_nil (Qb_normal ?_)
        refine wpL_region ?_
        refine sY hf hs rfl rfl rfl (Y_move rfl rfl) ?_; clear hf; intro a hf
        refine sY hf hs rfl rfl rfl (Y_add rfl rfl rfl) ?_; clear hf; intro a hf
        refine sY hf hs rfl rfl rfl (Y_assign rfl rfl) ?_; clear hf; intro a hf
        refine wpO_nil ?_
        refine wpL_nil (Ql_normal ?_)
        exact ⟨xs34, (IntKind.i64.wrap (x17 + 1)), (IntKind.i64.wrap (x18 + 1)), hm29, ((hn16).trans (upd_len hu35).symm), (Fr.pick (Fr.pick (Fr.pick hf.none hf rfl) hf rfl) hf rfl), hs⟩
      · have hm29 := bif_f hm29 hb31
        refine wpL_exit (Ql_exit (Qb_exit ?_))
        exact ⟨xs15, x17, Option.some.inj hm29, hn16, (Fr.pick hf.none hf rfl), hs⟩
  · rintro a w ⟨xs24, x26, hr_, hn25, hf, hs⟩
    subst hr_
    try dsimp only at hm
    refine wpL_seq ?_
    refine wpL_region ?_
    refine sY hf hs rfl rfl rfl (Y_move rfl rfl) ?_; clear hf; intro a hf
    refine sY hf hs rfl rfl rfl (Y_assign rfl rfl) ?_; clear hf; intro a hf
    refine wpO_nil ?_
    obtain rfl := Option.some.inj hm
    refine wpL_ret (ret_tmp rfl hf rfl ?_)
    exact ⟨_, rfl, rfl, hn25, hs⟩

set_option maxRecDepth 100000 in
theorem laws_markTimetable_ok (F : Nat) (p0_a : GTimetable) (A_p0_a_1 : Option Addr) (n_p0_a_1 c_p0_a_1 : Nat) (hn_p0_a_1 : n_p0_a_1 = p0_a.Starts.length) (p1_k : Int) (r : (Int) × List Int) (W : World) (hm : laws_markTimetable F p0_a p1_k = some r) (h_p0_a_1 : (Res.row A_p0_a_1 n_p0_a_1 c_p0_a_1 2 1 (ints p0_a.Starts) : Res).holds 0 W) :
    Calls Try.prog 37 [.agg #[.int .i64 p0_a.Period, .slice A_p0_a_1 n_p0_a_1 c_p0_a_1], .int .i64 p1_k].toArray W fun e w' => ∃ v, e = .returned v ∧ v = .int .i64 r.1 ∧ n_p0_a_1 = r.2.length ∧ St (muA A_p0_a_1) W w' [.row A_p0_a_1 n_p0_a_1 c_p0_a_1 2 1 (ints r.2)] := by
  subst hn_p0_a_1
  unfold laws_markTimetable at hm
  refine Calls.enter (N := 10) Try.func37 rfl rfl rfl (fun a hf => ?_)
  have hs : St (muA A_p0_a_1) W W [.row A_p0_a_1 p0_a.Starts.length c_p0_a_1 2 1 (ints p0_a.Starts)] := St.startMut h_p0_a_1 (fun b hb => mem_muA hb)
  obtain ⟨w, hw_⟩ : ∃ w, w = W := ⟨W, rfl⟩
  clear hw_ w
  refine wpL_seq ?_
  refine wpL_region ?_
  refine sBox hf hs rfl rfl rfl rfl rfl (cs := [.int .i64 p0_a.Period, .slice A_p0_a_1 p0_a.Starts.length c_p0_a_1]) rfl ?_; clear hf hs; intro a w b1 hs hf
  have hs : St (muA A_p0_a_1) W w [.row A_p0_a_1 p0_a.Starts.length c_p0_a_1 2 1 (ints p0_a.Starts), .blk b1 36 [.int .i64 p0_a.Period, .slice A_p0_a_1 p0_a.Starts.length c_p0_a_1]] := hs
  refine sY hf hs rfl rfl rfl (Y_assign rfl rfl) ?_; clear hf; intro a hf
  refine wpO_nil ?_
  refine wpL_seq ?_
  refine wpL_region ?_
  refine sY hf hs rfl rfl rfl (Y_fieldAddr rfl rfl fo36_1) ?_; clear hf; intro a hf
  refine sY hf hs rfl rfl rfl (Y_load_blk rfl rfl (i := 1) rfl rfl ag25) ?_; clear hf; intro a hf
  refine sY hf hs rfl rfl rfl (Y_move rfl rfl) ?_; clear hf; intro a hf
  obtain ⟨r2, hc3, hm⟩ := bind_some hm
  refine sCall hf rfl rfl rfl rfl (cap := []) rfl rfl en38 (laws_markInt64S_ok F p0_a.Starts A_p0_a_1 p0_a.Starts.length c_p0_a_1 rfl p1_k _ _ hc3 (hs.res _ _ (show _[0]? = some _ from rfl))) ?_; clear hf
  rintro _ w ⟨rfl, hn4, hs1⟩ a hf
  have hs : St (muA A_p0_a_1) W w [.row A_p0_a_1 p0_a.Starts.length c_p0_a_1 2 1 (ints r2.2), .blk b1 36 [.int .i64 p0_a.Period, .slice A_p0_a_1 p0_a.Starts.length c_p0_a_1]] := hs.mut (i := 0) rfl (fun b hb => muA_mem hb) hs1
  clear hs1
  refine sY hf hs rfl rfl rfl (Y_assign rfl rfl) ?_; clear hf; intro a hf
  refine wpO_nil ?_
  refine wpL_seq ?_
  refine wpL_region ?_
  refine sY hf hs rfl rfl rfl (Y_move rfl rfl) ?_; clear hf; intro a hf
  refine sY hf hs rfl rfl rfl (Y_assign rfl rfl) ?_; clear hf; intro a hf
  refine wpO_nil ?_
  obtain rfl := Option.some.inj hm
  refine wpL_ret (ret_tmp rfl hf rfl ?_)
  exact ⟨_, rfl, rfl, hn4, hs.sel [0] (by decide)⟩

set_option maxRecDepth 100000 in
theorem laws_heldInt64S_ok (F : Nat) (p0_a : List Int) (A_p0_a_1 : Option Addr) (n_p0_a_1 c_p0_a_1 : Nat) (hn_p0_a_1 : n_p0_a_1 = p0_a.length) (p1_k : Int) (r : Int) (W : World) (hm : laws_heldInt64S F p0_a p1_k = some r) (h_p0_a_1 : Rd W A_p0_a_1 (ints p0_a)) :
    Calls Try.prog 41 [.slice A_p0_a_1 n_p0_a_1 c_p0_a_1, .int .i64 p1_k].toArray W fun e w' => ∃ v, e = .returned v ∧ v = .int .i64 r ∧ St [] W w' [] := by
  subst hn_p0_a_1
  unfold laws_heldInt64S at hm
  refine Calls.enter (N := 21) Try.func41 rfl rfl rfl (fun a hf => ?_)
  have hs := St.start W
  obtain ⟨w, hw_⟩ : ∃ w, w = W := ⟨W, rfl⟩
  clear hw_ w
  refine wpL_seq ?_
  refine wpL_region ?_
  refine sY hf hs rfl rfl rfl (Y_assign rfl rfl) ?_; clear hf; intro a hf
  refine wpO_nil ?_
  refine wpL_seq ?_
  refine wpL_seq ?_
  refine wpL_region ?_
  refine sY hf hs rfl rfl rfl (Y_assign rfl rfl) ?_; clear hf; intro a hf
  refine wpO_nil ?_
  obtain ⟨r18, hl19, hm⟩ := bind_some hm
  refine wpL_block (fun a w => ∃ x17 : Int, Sum.inr x17 = r18 ∧ Fr a 21 [(1, .int .i64 x17)] ∧ St [] W w []) ?_ ?_
  · refine wpL_loop (fun n a w => ∃ x11 : Int, ∃ x12 : Int, laws_heldInt64S_L1 F p0_a n x11 x12 = some r18 ∧ Fr a 21 [(0, .slice A_p0_a_1 p0_a.length c_p0_a_1), (1, .int .i64 x11), (5, .int .i64 x12)] ∧ St [] W w []) F ?_ ?_ ?_
    · exact ⟨p1_k, 0, hl19, (Fr.pick (Fr.pick (Fr.pick hf.none hf rfl) hf rfl) hf rfl), hs⟩
    · rintro a w ⟨x11, x12, h0_, -, -⟩; simp [laws_heldInt64S_L1] at h0_
    · rintro n21 a w ⟨x11, x12, hm20, hf, hs⟩
      rw [laws_heldInt64S_L1] at hm20
      refine wpL_seq ?_
      refine wpL_seq ?_
      refine wpL_region ?_
      refine sY hf hs rfl rfl rfl (Y_move rfl rfl) ?_; clear hf; intro a hf
      refine sY hf hs rfl rfl rfl (Y_move rfl rfl) ?_; clear hf; intro a hf
      refine sY hf hs rfl rfl rfl (Y_lenH rfl rfl el25 rfl) ?_; clear hf; intro a hf
      refine sY hf hs rfl rfl rfl (Y_lss rfl rfl rfl) ?_; clear hf; intro a hf
      refine wpO_nil ?_
      refine wpL_cond hf rfl (fun hb22 => ?_) (fun hb22 => ?_)
      · have hm20 := bif_t hm20 hb22
        refine wpL_skip ?_
        refine wpL_seq ?_
        refine wpL_block0 ?_
        refine wpL_seq ?_
        refine wpL_seq ?_
        refine wpL_region ?_
        refine sY hf hs rfl rfl rfl (Y_move rfl rfl) ?_; clear hf; intro a hf
        refine sY hf hs rfl rfl rfl (Y_move rfl rfl) ?_; clear hf; intro a hf
        obtain ⟨q23, hi24, hm20⟩ := bind_some hm20
        obtain ⟨hi24a, hi24b, hi24q⟩ := idx_some hi24
        refine sY hf hs rfl rfl rfl (Y_index rfl rfl rfl el25 ti2 (Rd.isAt (h_p0_a_1.at hs) (at1 (ints_at hi24q))) hi24a hi24b) ?_; clear hf; intro a hf
        refine sY hf hs rfl rfl rfl (Y_load_rd rfl rfl (fun w hs => h_p0_a_1.at hs) (at1 (ints_at hi24q)) ag2) ?_; clear hf; intro a hf
        refine sY hf hs rfl rfl rfl (Y_move rfl rfl) ?_; clear hf; intro a hf
        refine sY hf hs rfl rfl rfl (Y_neq rfl rfl rfl) ?_; clear hf; intro a hf
        refine wpO_nil ?_
        refine wpL_cond hf rfl (fun hb25 => ?_) (fun hb25 => ?_)
        · have hm20 := bif_t hm20 hb25
          refine wpL_seq ?_
          refine wpL_region ?_
          refine sY hf hs rfl rfl rfl (Y_assign rfl rfl) ?_; clear hf; intro a hf
          refine wpO_nil ?_
          obtain rfl := Option.some.inj hm20
          try dsimp only at hm
          obtain rfl := Option.some.inj hm
          refine wpL_ret (Qb_ret (Ql_ret (Qb_ret (ret_tmp rfl hf rfl ?_))))
          exact ⟨_, rfl, rfl, hs⟩
        · have hm20 := bif_f hm20 hb25
          refine wpL_skip ?_
          refine wpL_region ?_
          refine sY hf hs rfl rfl rfl (Y_move rfl rfl) ?_; clear hf; intro a hf
          refine sY hf hs rfl rfl rfl (Y_add rfl rfl rfl) ?_; clear hf; intro a hf
          refine sY hf hs rfl rfl rfl (Y_assign rfl rfl) ?_; clear hf; intro a hf
          refine wpO_nil ?_
          refine wpL_nil (Qb_normal ?_)
          refine wpL_region ?_
          refine sY hf hs rfl rfl rfl (Y_move rfl rfl) ?_; clear hf; intro a hf
          refine sY hf hs rfl rfl rfl (Y_add rfl rfl rfl) ?_; clear hf; intro a hf
          refine sY hf hs rfl rfl rfl (Y_assign rfl rfl) ?_; clear hf; intro a hf
          refine wpO_nil ?_
          refine wpL_nil (Ql_normal ?_)
          exact ⟨(IntKind.i64.wrap (x11 + 1)), (IntKind.i64.wrap (x12 + 1)), hm20, (Fr.pick (Fr.pick (Fr.pick hf.none hf rfl) hf rfl) hf rfl), hs⟩
      · have hm20 := bif_f hm20 hb22
        refine wpL_exit (Ql_exit (Qb_exit ?_))
        exact ⟨x11, Option.some.inj hm20, (Fr.pick hf.none hf rfl), hs⟩
  · rintro a w ⟨x17, hr_, hf, hs⟩
    subst hr_
    try dsimp only at hm
    refine wpL_seq ?_
    refine wpL_region ?_
    refine sY hf hs rfl rfl rfl (Y_move rfl rfl) ?_; clear hf; intro a hf
    refine sY hf hs rfl rfl rfl (Y_assign rfl rfl) ?_; clear hf; intro a hf
    refine wpO_nil ?_
    obtain rfl := Option.some.inj hm
    refine wpL_ret (ret_tmp rfl hf rfl ?_)
    exact ⟨_, rfl, rfl, hs⟩

set_option maxRecDepth 100000 in
theorem laws_FnExactDelayedEvents_ok (F : Nat) (p0 : LEventGraph) (A_p0_1 : Option Addr) (n_p0_1 c_p0_1 : Nat) (hn_p0_1 : n_p0_1 = p0.Places.length) (p1 : LTimetable) (A_p1_1 : Option Addr) (n_p1_1 c_p1_1 : Nat) (hn_p1_1 : n_p1_1 = p1.Starts.length) (p2 : Int) (p3 : Int) (r : Bool) (W : World) (hm : laws_FnExactDelayedEvents F p0 p1 p2 p3 = some r) (h_p0_1 : Rd W A_p0_1 ((recs LPlace.cells) p0.Places)) (h_p1_1 : Rd W A_p1_1 (ints p1.Starts)) :
    Calls Try.prog 8 [.agg #[.int .i64 p0.Events, .slice A_p0_1 n_p0_1 c_p0_1], .agg #[.int .i64 p1.Period, .slice A_p1_1 n_p1_1 c_p1_1], .int .i64 p2, .int .i64 p3].toArray W fun e w' => ∃ v, e = .returned v ∧ v = .bool r ∧ St [] W w' [] := by
  subst hn_p0_1
  subst hn_p1_1
  unfold laws_FnExactDelayedEvents at hm
  refine Calls.enter (N := 129) Try.func8 rfl rfl rfl (fun a hf => ?_)
  have hs := St.start W
  obtain ⟨w, hw_⟩ : ∃ w, w = W := ⟨W, rfl⟩
  clear hw_ w
  refine wpL_seq ?_
  refine wpL_region ?_
  refine sBox hf hs rfl rfl rfl rfl rfl (cs := [.int .i64 p0.Events, .slice A_p0_1 p0.Places.length c_p0_1]) rfl ?_; clear hf hs; intro a w b1 hs hf
  have hs : St [] W w [.blk b1 24 [.int .i64 p0.Events, .slice A_p0_1 p0.Places.length c_p0_1]] := hs
  refine sBox hf hs rfl rfl rfl rfl rfl (cs := [.int .i64 p1.Period, .slice A_p1_1 p1.Starts.length c_p1_1]) rfl ?_; clear hf hs; intro a w b2 hs hf
  have hs : St [] W w [.blk b1 24 [.int .i64 p0.Events, .slice A_p0_1 p0.Places.length c_p0_1], .blk b2 27 [.int .i64 p1.Period, .slice A_p1_1 p1.Starts.length c_p1_1]] := hs
  refine sY hf hs rfl rfl rfl (Y_assign rfl rfl) ?_; clear hf; intro a hf
  refine wpO_nil ?_
  refine wpL_seq ?_
  refine wpL_region ?_
  refine sY hf hs rfl rfl rfl (Y_assign rfl rfl) ?_; clear hf; intro a hf
  refine wpO_nil ?_
  refine wpL_seq ?_
  refine wpL_region ?_
  refine sY hf hs rfl rfl rfl (Y_load_blkS rfl rfl (i := 0) rfl ag24 ti24 rfl) ?_; clear hf; intro a hf
  refine sY hf hs rfl rfl rfl (Y_move rfl rfl) ?_; clear hf; intro a hf
  obtain ⟨r3, hc4, hm⟩ := bind_some hm
  refine sCall hf rfl rfl rfl rfl (cap := []) rfl rfl en15 (laws_szEventGraph_ok F p0 A_p0_1 p0.Places.length c_p0_1 rfl 1048576 _ _ hc4 (h_p0_1.at hs)) ?_; clear hf
  rintro _ w ⟨rfl, hs1⟩ a hf
  have hs : St [] W w [.blk b1 24 [.int .i64 p0.Events, .slice A_p0_1 p0.Places.length c_p0_1], .blk b2 27 [.int .i64 p1.Period, .slice A_p1_1 p1.Starts.length c_p1_1]] := hs.ext hs1.below
  clear hs1
  refine sY hf hs rfl rfl rfl (Y_assign rfl rfl) ?_; clear hf; intro a hf
  refine wpO_nil ?_
  refine wpL_seq ?_
  refine wpL_seq ?_
  refine wpL_region ?_
  refine sY hf hs rfl rfl rfl (Y_move rfl rfl) ?_; clear hf; intro a hf
  refine sY hf hs rfl rfl rfl (Y_lss rfl rfl rfl) ?_; clear hf; intro a hf
  refine wpO_nil ?_
  refine wpL_cond hf rfl (fun hb5 => ?_) (fun hb5 => ?_)
  · have hm := bif_t hm hb5
    refine wpL_seq ?_
    refine wpL_region ?_
    refine sY hf hs rfl rfl rfl (Y_assign rfl rfl) ?_; clear hf; intro a hf
    refine wpO_nil ?_
    obtain rfl := Option.some.inj hm
    refine wpL_ret (ret_tmp rfl hf rfl ?_)
    exact ⟨_, rfl, rfl, hs.sel [] (by decide)⟩
  · have hm := bif_f hm hb5
    refine wpL_skip ?_
    refine wpL_seq ?_
    refine wpL_region ?_
    refine sY hf hs rfl rfl rfl (Y_load_blkS rfl rfl (i := 1) rfl ag27 ti27 rfl) ?_; clear hf; intro a hf
    refine sY hf hs rfl rfl rfl (Y_move rfl rfl) ?_; clear hf; intro a hf
    obtain ⟨r6, hc7, hm⟩ := bind_some hm
    refine sCall hf rfl rfl rfl rfl (cap := []) rfl rfl en16 (laws_szTimetable_ok F p1 A_p1_1 p1.Starts.length c_p1_1 rfl r3 _ _ hc7 (h_p1_1.at hs)) ?_; clear hf
    rintro _ w ⟨rfl, hs1⟩ a hf
    have hs : St [] W w [.blk b1 24 [.int .i64 p0.Events, .slice A_p0_1 p0.Places.length c_p0_1], .blk b2 27 [.int .i64 p1.Period, .slice A_p1_1 p1.Starts.length c_p1_1]] := hs.ext hs1.below
    clear hs1
    refine sY hf hs rfl rfl rfl (Y_assign rfl rfl) ?_; clear hf; intro a hf
    refine wpO_nil ?_
    refine wpL_seq ?_
    refine wpL_seq ?_
    refine wpL_region ?_
    refine sY hf hs rfl rfl rfl (Y_move rfl rfl) ?_; clear hf; intro a hf
    refine sY hf hs rfl rfl rfl (Y_lss rfl rfl rfl) ?_; clear hf; intro a hf
    refine wpO_nil ?_
    refine wpL_cond hf rfl (fun hb8 => ?_) (fun hb8 => ?_)
    · have hm := bif_t hm hb8
      refine wpL_seq ?_
      refine wpL_region ?_
      refine sY hf hs rfl rfl rfl (Y_assign rfl rfl) ?_; clear hf; intro a hf
      refine wpO_nil ?_
      obtain rfl := Option.some.inj hm
      refine wpL_ret (ret_tmp rfl hf rfl ?_)
      exact ⟨_, rfl, rfl, hs.sel [] (by decide)⟩
    · have hm := bif_f hm hb8
      refine wpL_skip ?_
      refine wpL_seq ?_
      refine wpL_drawG [.blk b1 24 [.int .i64 p0.Events, .slice A_p0_1 p0.Places.length c_p0_1], .blk b2 27 [.int .i64 p1.Period, .slice A_p1_1 p1.Starts.length c_p1_1]] 12 (by kernel_rfl) hs ?_; clear hs; intro w hs
      have hs0 : St [] W w [.blk b1 24 [.int .i64 p0.Events, .slice A_p0_1 p0.Places.length c_p0_1], .blk b2 27 [.int .i64 p1.Period, .slice A_p1_1 p1.Starts.length c_p1_1]] := hs
      refine gY (i := 0) [] rfl (by kernel_rfl) (by kernel_rfl) hf hs0 rfl rfl rfl (Y_load_blkS rfl rfl (i := 0) rfl ag24 ti24 rfl) ?_; clear hf; intro a hf
      refine gY (i := 2) [] rfl (by kernel_rfl) (by kernel_rfl) hf hs0 rfl rfl rfl (Y_load_blkS rfl rfl (i := 1) rfl ag27 ti27 rfl) ?_; clear hf; intro a hf
      refine gY (i := 4) [] rfl (by kernel_rfl) (by kernel_rfl) hf hs0 rfl rfl rfl (Y_move rfl rfl) ?_; clear hf; intro a hf
      refine gY (i := 5) [] rfl (by kernel_rfl) (by kernel_rfl) hf hs0 rfl rfl rfl (Y_move rfl rfl) ?_; clear hf; intro a hf
      refine gRun (i := 1) rfl (by kernel_rfl) ?_
      obtain ⟨r27, hc28, hm⟩ := bind_some hm
      refine sCall hf rfl rfl rfl rfl (cap := []) rfl rfl en18 (laws_toEventGraph_ok F p0 A_p0_1 p0.Places.length c_p0_1 rfl _ _ hc28 (h_p0_1.at hs)) ?_; clear hf
      rintro _ w ⟨A29, n30, c31, rfl, hn32, hs1⟩ a hf
      have hs : St [] W w [.blk b1 24 [.int .i64 p0.Events, .slice A_p0_1 p0.Places.length c_p0_1], .blk b2 27 [.int .i64 p1.Period, .slice A_p1_1 p1.Starts.length c_p1_1], .row A29 n30 c31 71 4 ((recs GPlace.cells) r27.Places)] := hs.join hs1
      clear hs1
      have hs0 : St [] W w [.blk b1 24 [.int .i64 p0.Events, .slice A_p0_1 p0.Places.length c_p0_1], .blk b2 27 [.int .i64 p1.Period, .slice A_p1_1 p1.Starts.length c_p1_1]] := hs.sel [0, 1] (by decide)
      refine wpO_nil ⟨Or.inr hs0, ?_⟩
      refine gRun (i := 3) rfl (by kernel_rfl) ?_
      obtain ⟨r33, hc34, hm⟩ := bind_some hm
      refine sCall hf rfl rfl rfl rfl (cap := []) rfl rfl en19 (laws_toTimetable_ok F p1 A_p1_1 p1.Starts.length c_p1_1 rfl _ _ hc34 (h_p1_1.at hs)) ?_; clear hf
      rintro _ w ⟨A35, n36, c37, rfl, hn38, hs1⟩ a hf
      have hs : St [] W w [.blk b1 24 [.int .i64 p0.Events, .slice A_p0_1 p0.Places.length c_p0_1], .blk b2 27 [.int .i64 p1.Period, .slice A_p1_1 p1.Starts.length c_p1_1], .row A29 n30 c31 71 4 ((recs GPlace.cells) r27.Places), .row A35 n36 c37 2 1 (ints r33.Starts)] := hs.join hs1
      clear hs1
      have hs0 : St [] W w [.blk b1 24 [.int .i64 p0.Events, .slice A_p0_1 p0.Places.length c_p0_1], .blk b2 27 [.int .i64 p1.Period, .slice A_p1_1 p1.Starts.length c_p1_1]] := hs.sel [0, 1] (by decide)
      refine wpO_nil ⟨Or.inr hs0, ?_⟩
      refine gRun (i := 6) rfl (by kernel_rfl) ?_
      obtain ⟨r39, hc40, hm⟩ := bind_some hm
      refine sCall hf rfl rfl rfl rfl (cap := []) rfl rfl en42 (spec_DelayedEvents_ok F r27 A29 n30 c31 hn32 r33 A35 n36 c37 hn38 p2 p3 _ _ hc40 (hs.rd (i := 2) rfl) (hs.rd (i := 3) rfl)) ?_; clear hf
      rintro _ w ⟨A41, n42, c43, rfl, hn44, hs1⟩ a hf
      have hs : St [] W w [.blk b1 24 [.int .i64 p0.Events, .slice A_p0_1 p0.Places.length c_p0_1], .blk b2 27 [.int .i64 p1.Period, .slice A_p1_1 p1.Starts.length c_p1_1], .row A29 n30 c31 71 4 ((recs GPlace.cells) r27.Places), .row A35 n36 c37 2 1 (ints r33.Starts), .row A41 n42 c43 2 1 (ints r39.1)] := hs.join hs1
      clear hs1
      have hs0 : St [] W w [.blk b1 24 [.int .i64 p0.Events, .slice A_p0_1 p0.Places.length c_p0_1], .blk b2 27 [.int .i64 p1.Period, .slice A_p1_1 p1.Starts.length c_p1_1]] := hs.sel [0, 1] (by decide)
      refine wpO_nil ⟨Or.inr hs0, ?_⟩
      refine gY (i := 7) [] rfl (by kernel_rfl) (by kernel_rfl) hf hs0 rfl rfl rfl (Y_move rfl rfl) ?_; clear hf; intro a hf
      refine gY (i := 8) [] rfl (by kernel_rfl) (by kernel_rfl) hf hs0 rfl rfl rfl (Y_extract rfl rfl rfl) ?_; clear hf; intro a hf
      refine gY (i := 9) [] rfl (by kernel_rfl) (by kernel_rfl) hf hs0 rfl rfl rfl (Y_extract rfl rfl rfl) ?_; clear hf; intro a hf
      refine gY (i := 10) [] rfl (by kernel_rfl) (by kernel_rfl) hf hs0 rfl rfl rfl (Y_assign rfl rfl) ?_; clear hf; intro a hf
      refine gY (i := 11) [] rfl (by kernel_rfl) (by kernel_rfl) hf hs0 rfl rfl rfl (Y_assign rfl rfl) ?_; clear hf; intro a hf
      refine gDone (by kernel_rfl) ?_
      clear hs0
      refine wpL_seq ?_
      refine wpL_region ?_
      refine sY hf hs rfl rfl rfl (Y_load_blkS rfl rfl (i := 0) rfl ag24 ti24 rfl) ?_; clear hf; intro a hf
      obtain ⟨r45, hc46, hm⟩ := bind_some hm
      refine sCall hf rfl rfl rfl rfl (cap := []) rfl rfl en18 (laws_toEventGraph_ok F p0 A_p0_1 p0.Places.length c_p0_1 rfl _ _ hc46 (h_p0_1.at hs)) ?_; clear hf
      rintro _ w ⟨A47, n48, c49, rfl, hn50, hs1⟩ a hf
      have hs : St [] W w [.blk b1 24 [.int .i64 p0.Events, .slice A_p0_1 p0.Places.length c_p0_1], .blk b2 27 [.int .i64 p1.Period, .slice A_p1_1 p1.Starts.length c_p1_1], .row A29 n30 c31 71 4 ((recs GPlace.cells) r27.Places), .row A35 n36 c37 2 1 (ints r33.Starts), .row A41 n42 c43 2 1 (ints r39.1), .row A47 n48 c49 71 4 ((recs GPlace.cells) r45.Places)] := hs.join hs1
      clear hs1
      refine sAlloc hf hs rfl rfl rfl rfl ti34 ?_; clear hf hs; intro a w b51 hs hf
      have hs : St [] W w [.blk b1 24 [.int .i64 p0.Events, .slice A_p0_1 p0.Places.length c_p0_1], .blk b2 27 [.int .i64 p1.Period, .slice A_p1_1 p1.Starts.length c_p1_1], .row A29 n30 c31 71 4 ((recs GPlace.cells) r27.Places), .row A35 n36 c37 2 1 (ints r33.Starts), .row A41 n42 c43 2 1 (ints r39.1), .row A47 n48 c49 71 4 ((recs GPlace.cells) r45.Places), .blk b51 34 [.int .i64 0, .slice none 0 0]] := hs
      refine sStore (i := 6) (us := [.int .i64 r45.Events, .slice A47 n48 c49]) hf hs rfl rfl rfl rfl rfl rfl ti34 rfl rfl rfl (Nat.le_of_ble_eq_true rfl) rfl ?_; clear hs; intro w hs
      have hs : St [] W w [.blk b1 24 [.int .i64 p0.Events, .slice A_p0_1 p0.Places.length c_p0_1], .blk b2 27 [.int .i64 p1.Period, .slice A_p1_1 p1.Starts.length c_p1_1], .row A29 n30 c31 71 4 ((recs GPlace.cells) r27.Places), .row A35 n36 c37 2 1 (ints r33.Starts), .row A41 n42 c43 2 1 (ints r39.1), .row A47 n48 c49 71 4 ((recs GPlace.cells) r45.Places), .blk b51 34 [.int .i64 r45.Events, .slice A47 n48 c49]] := hs
      refine wpO_nil ?_
      refine wpL_seq ?_
      refine wpL_region ?_
      refine sY hf hs rfl rfl rfl (Y_load_blkS rfl rfl (i := 1) rfl ag27 ti27 rfl) ?_; clear hf; intro a hf
      obtain ⟨r52, hc53, hm⟩ := bind_some hm
      refine sCall hf rfl rfl rfl rfl (cap := []) rfl rfl en19 (laws_toTimetable_ok F p1 A_p1_1 p1.Starts.length c_p1_1 rfl _ _ hc53 (h_p1_1.at hs)) ?_; clear hf
      rintro _ w ⟨A54, n55, c56, rfl, hn57, hs1⟩ a hf
      have hs : St [] W w [.blk b1 24 [.int .i64 p0.Events, .slice A_p0_1 p0.Places.length c_p0_1], .blk b2 27 [.int .i64 p1.Period, .slice A_p1_1 p1.Starts.length c_p1_1], .row A29 n30 c31 71 4 ((recs GPlace.cells) r27.Places), .row A35 n36 c37 2 1 (ints r33.Starts), .row A41 n42 c43 2 1 (ints r39.1), .row A47 n48 c49 71 4 ((recs GPlace.cells) r45.Places), .blk b51 34 [.int .i64 r45.Events, .slice A47 n48 c49], .row A54 n55 c56 2 1 (ints r52.Starts)] := hs.join hs1
      clear hs1
      refine sAlloc hf hs rfl rfl rfl rfl ti36 ?_; clear hf hs; intro a w b58 hs hf
      have hs : St [] W w [.blk b1 24 [.int .i64 p0.Events, .slice A_p0_1 p0.Places.length c_p0_1], .blk b2 27 [.int .i64 p1.Period, .slice A_p1_1 p1.Starts.length c_p1_1], .row A29 n30 c31 71 4 ((recs GPlace.cells) r27.Places), .row A35 n36 c37 2 1 (ints r33.Starts), .row A41 n42 c43 2 1 (ints r39.1), .row A47 n48 c49 71 4 ((recs GPlace.cells) r45.Places), .blk b51 34 [.int .i64 r45.Events, .slice A47 n48 c49], .row A54 n55 c56 2 1 (ints r52.Starts), .blk b58 36 [.int .i64 0, .slice none 0 0]] := hs
      refine sStore (i := 8) (us := [.int .i64 r52.Period, .slice A54 n55 c56]) hf hs rfl rfl rfl rfl rfl rfl ti36 rfl rfl rfl (Nat.le_of_ble_eq_true rfl) rfl ?_; clear hs; intro w hs
      have hs : St [] W w [.blk b1 24 [.int .i64 p0.Events, .slice A_p0_1 p0.Places.length c_p0_1], .blk b2 27 [.int .i64 p1.Period, .slice A_p1_1 p1.Starts.length c_p1_1], .row A29 n30 c31 71 4 ((recs GPlace.cells) r27.Places), .row A35 n36 c37 2 1 (ints r33.Starts), .row A41 n42 c43 2 1 (ints r39.1), .row A47 n48 c49 71 4 ((recs GPlace.cells) r45.Places), .blk b51 34 [.int .i64 r45.Events, .slice A47 n48 c49], .row A54 n55 c56 2 1 (ints r52.Starts), .blk b58 36 [.int .i64 r52.Period, .slice A54 n55 c56]] := hs
      refine wpO_nil ?_
      refine wpL_seq ?_
      refine wpL_region ?_
      refine sY hf hs rfl rfl rfl (Y_load_blkS rfl rfl (i := 6) rfl ag34 ti34 rfl) ?_; clear hf; intro a hf
      refine sY hf hs rfl rfl rfl (Y_load_blkS rfl rfl (i := 8) rfl ag36 ti36 rfl) ?_; clear hf; intro a hf
      refine sY hf hs rfl rfl rfl (Y_move rfl rfl) ?_; clear hf; intro a hf
      refine sY hf hs rfl rfl rfl (Y_move rfl rfl) ?_; clear hf; intro a hf
      obtain ⟨r59, hc60, hm⟩ := bind_some hm
      refine sCall hf rfl rfl rfl rfl (cap := []) rfl rfl en43 (impl_DelayedEvents_ok F r45 A47 n48 c49 hn50 r52 A54 n55 c56 hn57 p2 p3 _ _ hc60 (hs.rd (i := 5) rfl) (hs.rd (i := 7) rfl)) ?_; clear hf
      rintro _ w ⟨A61, n62, c63, rfl, hn64, hs1⟩ a hf
      have hs : St [] W w [.blk b1 24 [.int .i64 p0.Events, .slice A_p0_1 p0.Places.length c_p0_1], .blk b2 27 [.int .i64 p1.Period, .slice A_p1_1 p1.Starts.length c_p1_1], .row A29 n30 c31 71 4 ((recs GPlace.cells) r27.Places), .row A35 n36 c37 2 1 (ints r33.Starts), .row A41 n42 c43 2 1 (ints r39.1), .row A47 n48 c49 71 4 ((recs GPlace.cells) r45.Places), .blk b51 34 [.int .i64 r45.Events, .slice A47 n48 c49], .row A54 n55 c56 2 1 (ints r52.Starts), .blk b58 36 [.int .i64 r52.Period, .slice A54 n55 c56], .row A61 n62 c63 2 1 (ints r59.1)] := hs.join hs1
      clear hs1
      refine sY hf hs rfl rfl rfl (Y_move rfl rfl) ?_; clear hf; intro a hf
      refine sY hf hs rfl rfl rfl (Y_extract rfl rfl rfl) ?_; clear hf; intro a hf
      refine sY hf hs rfl rfl rfl (Y_extract rfl rfl rfl) ?_; clear hf; intro a hf
      refine sY hf hs rfl rfl rfl (Y_assign rfl rfl) ?_; clear hf; intro a hf
      refine sY hf hs rfl rfl rfl (Y_assign rfl rfl) ?_; clear hf; intro a hf
      refine wpO_nil ?_
      refine wpL_seq ?_
      refine wpL_seq ?_
      obtain ⟨r69, hj70, hm⟩ := bind_some hm
      refine wpL_cut (fun a w => ∃ b68 : Bool, b68 = r69 ∧ Fr a 129 [(2, .int .i64 p2), (3, .int .i64 p3), (4, .pointer (some ⟨b1, 0, none⟩)), (5, .pointer (some ⟨b2, 0, none⟩)), (10, .slice A41 n42 c43), (11, .int .i64 r39.2), (12, .pointer (some ⟨b51, 0, none⟩)), (13, .pointer (some ⟨b58, 0, none⟩)), (14, .slice A61 n62 c63), (15, .int .i64 r59.2), (61, .bool b68)] ∧ St [] W w [.blk b1 24 [.int .i64 p0.Events, .slice A_p0_1 p0.Places.length c_p0_1], .blk b2 27 [.int .i64 p1.Period, .slice A_p1_1 p1.Starts.length c_p1_1], .row A41 n42 c43 2 1 (ints r39.1), .blk b51 34 [.int .i64 r45.Events, .slice A47 n48 c49], .row A47 n48 c49 71 4 ((recs GPlace.cells) r45.Places), .blk b58 36 [.int .i64 r52.Period, .slice A54 n55 c56], .row A54 n55 c56 2 1 (ints r52.Starts), .row A61 n62 c63 2 1 (ints r59.1)]) ?_ ?_
      · refine wpL_region ?_
        refine sY hf hs rfl rfl rfl (Y_move rfl rfl) ?_; clear hf; intro a hf
        refine sY hf hs rfl rfl rfl (Y_move rfl rfl) ?_; clear hf; intro a hf
        obtain ⟨r71, hc72, hj70⟩ := bind_some hj70
        refine sCall hf rfl rfl rfl rfl (cap := []) rfl rfl en34 (laws_eqInt64S_ok F r59.1 A61 n62 c63 hn64 r39.1 A41 n42 c43 hn44 _ _ hc72 (hs.rd (i := 9) rfl) (hs.rd (i := 4) rfl)) ?_; clear hf
        rintro _ w ⟨rfl, hs1⟩ a hf
        have hs : St [] W w [.blk b1 24 [.int .i64 p0.Events, .slice A_p0_1 p0.Places.length c_p0_1], .blk b2 27 [.int .i64 p1.Period, .slice A_p1_1 p1.Starts.length c_p1_1], .row A29 n30 c31 71 4 ((recs GPlace.cells) r27.Places), .row A35 n36 c37 2 1 (ints r33.Starts), .row A41 n42 c43 2 1 (ints r39.1), .row A47 n48 c49 71 4 ((recs GPlace.cells) r45.Places), .blk b51 34 [.int .i64 r45.Events, .slice A47 n48 c49], .row A54 n55 c56 2 1 (ints r52.Starts), .blk b58 36 [.int .i64 r52.Period, .slice A54 n55 c56], .row A61 n62 c63 2 1 (ints r59.1)] := hs.ext hs1.below
        clear hs1
        refine sY hf hs rfl rfl rfl (Y_not rfl rfl) ?_; clear hf; intro a hf
        refine sY hf hs rfl rfl rfl (Y_move rfl rfl) ?_; clear hf; intro a hf
        refine bsplit (!r71) (fun hb73 => ?_) (fun hb73 => ?_)
        · have hj70 := bif_t hj70 hb73
          refine sNo hf rfl rfl rfl (congrArg (fun b => some (Value.bool b)) hb73) rfl rfl rfl ?_; clear hf; intro a hf
          refine sNo hf rfl rfl rfl (congrArg (fun b => some (Value.bool b)) hb73) rfl rfl rfl ?_; clear hf; intro a hf
          refine sNo hf rfl rfl rfl (congrArg (fun b => some (Value.bool b)) hb73) rfl rfl rfl ?_; clear hf; intro a hf
          refine sY hf hs rfl rfl rfl (Y_pickT rfl (congrArg (fun b => some (Value.bool b)) hb73) rfl) ?_; clear hf; intro a hf
          refine wpO_nil ?_
          refine wpL_nil (then_normal ?_)
          exact ⟨true, Option.some.inj hj70, (Fr.pick (Fr.pick (Fr.pick (Fr.pick (Fr.pick (Fr.pick (Fr.pick (Fr.pick (Fr.pick (Fr.pick (Fr.pick hf.none hf rfl) hf rfl) hf rfl) hf rfl) hf rfl) hf rfl) hf rfl) hf rfl) hf rfl) hf rfl) hf rfl), hs.sel [0, 1, 4, 6, 5, 8, 7, 9] (by decide)⟩
        · have hj70 := bif_f hj70 hb73
          refine sYg hf hs rfl rfl rfl (congrArg (fun b => some (Value.bool b)) hb73) rfl rfl rfl (Y_move rfl rfl) ?_; clear hf; intro a hf
          refine sYg hf hs rfl rfl rfl (congrArg (fun b => some (Value.bool b)) hb73) rfl rfl rfl (Y_move rfl rfl) ?_; clear hf; intro a hf
          refine sYg hf hs rfl rfl rfl (congrArg (fun b => some (Value.bool b)) hb73) rfl rfl rfl (Y_neq rfl rfl rfl) ?_; clear hf; intro a hf
          refine sY hf hs rfl rfl rfl (Y_pickF rfl (congrArg (fun b => some (Value.bool b)) hb73) rfl) ?_; clear hf; intro a hf
          refine wpO_nil ?_
          refine wpL_nil (then_normal ?_)
          exact ⟨(r59.2 != r39.2), Option.some.inj hj70, (Fr.pick (Fr.pick (Fr.pick (Fr.pick (Fr.pick (Fr.pick (Fr.pick (Fr.pick (Fr.pick (Fr.pick (Fr.pick hf.none hf rfl) hf rfl) hf rfl) hf rfl) hf rfl) hf rfl) hf rfl) hf rfl) hf rfl) hf rfl) hf rfl), hs.sel [0, 1, 4, 6, 5, 8, 7, 9] (by decide)⟩
      · rintro a w ⟨b68, hr_, hf, hs⟩
        subst hr_
        try dsimp only at hm
        refine wpL_cond hf rfl (fun hb74 => ?_) (fun hb74 => ?_)
        · have hm := bif_t hm hb74
          refine wpL_seq ?_
          refine wpL_region ?_
          refine sY hf hs rfl rfl rfl (Y_assign rfl rfl) ?_; clear hf; intro a hf
          refine wpO_nil ?_
          obtain rfl := Option.some.inj hm
          refine wpL_ret (ret_tmp rfl hf rfl ?_)
          exact ⟨_, rfl, rfl, hs.sel [] (by decide)⟩
        · have hm := bif_f hm hb74
          refine wpL_skip ?_
          refine wpL_seq ?_
          refine wpL_seq ?_
          refine wpL_drawG [.blk b1 24 [.int .i64 p0.Events, .slice A_p0_1 p0.Places.length c_p0_1], .blk b2 27 [.int .i64 p1.Period, .slice A_p1_1 p1.Starts.length c_p1_1], .row A41 n42 c43 2 1 (ints r39.1), .blk b51 34 [.int .i64 r45.Events, .slice A47 n48 c49], .row A47 n48 c49 71 4 ((recs GPlace.cells) r45.Places), .blk b58 36 [.int .i64 r52.Period, .slice A54 n55 c56], .row A54 n55 c56 2 1 (ints r52.Starts), .row A61 n62 c63 2 1 (ints r59.1)] 5 (by kernel_rfl) hs ?_; clear hs; intro w hs
          have hs0 : St [] W w [.blk b1 24 [.int .i64 p0.Events, .slice A_p0_1 p0.Places.length c_p0_1], .blk b2 27 [.int .i64 p1.Period, .slice A_p1_1 p1.Starts.length c_p1_1], .row A41 n42 c43 2 1 (ints r39.1), .blk b51 34 [.int .i64 r45.Events, .slice A47 n48 c49], .row A47 n48 c49 71 4 ((recs GPlace.cells) r45.Places), .blk b58 36 [.int .i64 r52.Period, .slice A54 n55 c56], .row A54 n55 c56 2 1 (ints r52.Starts), .row A61 n62 c63 2 1 (ints r59.1)] := hs
          refine gY (i := 0) [] rfl (by kernel_rfl) (by kernel_rfl) hf hs0 rfl rfl rfl (Y_load_blkS rfl rfl (i := 3) rfl ag34 ti34 rfl) ?_; clear hf; intro a hf
          refine gY (i := 1) [] rfl (by kernel_rfl) (by kernel_rfl) hf hs0 rfl rfl rfl (Y_load_blkS rfl rfl (i := 0) rfl ag24 ti24 rfl) ?_; clear hf; intro a hf
          refine gRun (i := 2) rfl (by kernel_rfl) ?_
          obtain ⟨r83, hc84, hm⟩ := bind_some hm
          refine sCall hf rfl rfl rfl rfl (cap := []) rfl rfl en18 (laws_toEventGraph_ok F p0 A_p0_1 p0.Places.length c_p0_1 rfl _ _ hc84 (h_p0_1.at hs)) ?_; clear hf
          rintro _ w ⟨A85, n86, c87, rfl, hn88, hs1⟩ a hf
          have hs : St [] W w [.blk b1 24 [.int .i64 p0.Events, .slice A_p0_1 p0.Places.length c_p0_1], .blk b2 27 [.int .i64 p1.Period, .slice A_p1_1 p1.Starts.length c_p1_1], .row A41 n42 c43 2 1 (ints r39.1), .blk b51 34 [.int .i64 r45.Events, .slice A47 n48 c49], .row A47 n48 c49 71 4 ((recs GPlace.cells) r45.Places), .blk b58 36 [.int .i64 r52.Period, .slice A54 n55 c56], .row A54 n55 c56 2 1 (ints r52.Starts), .row A61 n62 c63 2 1 (ints r59.1), .row A85 n86 c87 71 4 ((recs GPlace.cells) r83.Places)] := hs.join hs1
          clear hs1
          have hs0 : St [] W w [.blk b1 24 [.int .i64 p0.Events, .slice A_p0_1 p0.Places.length c_p0_1], .blk b2 27 [.int .i64 p1.Period, .slice A_p1_1 p1.Starts.length c_p1_1], .row A41 n42 c43 2 1 (ints r39.1), .blk b51 34 [.int .i64 r45.Events, .slice A47 n48 c49], .row A47 n48 c49 71 4 ((recs GPlace.cells) r45.Places), .blk b58 36 [.int .i64 r52.Period, .slice A54 n55 c56], .row A54 n55 c56 2 1 (ints r52.Starts), .row A61 n62 c63 2 1 (ints r59.1)] := hs.sel [0, 1, 2, 3, 4, 5, 6, 7] (by decide)
          refine wpO_nil ⟨Or.inr hs0, ?_⟩
          refine gRun (i := 3) rfl (by kernel_rfl) ?_
          obtain ⟨r89, hc90, hm⟩ := bind_some hm
          refine sCall hf rfl rfl rfl rfl (cap := []) rfl rfl en21 (laws_eqEventGraph_ok F r45 A47 n48 c49 hn50 r83 A85 n86 c87 hn88 _ _ hc90 (hs.rd (i := 4) rfl) (hs.rd (i := 8) rfl)) ?_; clear hf
          rintro _ w ⟨rfl, hs1⟩ a hf
          have hs : St [] W w [.blk b1 24 [.int .i64 p0.Events, .slice A_p0_1 p0.Places.length c_p0_1], .blk b2 27 [.int .i64 p1.Period, .slice A_p1_1 p1.Starts.length c_p1_1], .row A41 n42 c43 2 1 (ints r39.1), .blk b51 34 [.int .i64 r45.Events, .slice A47 n48 c49], .row A47 n48 c49 71 4 ((recs GPlace.cells) r45.Places), .blk b58 36 [.int .i64 r52.Period, .slice A54 n55 c56], .row A54 n55 c56 2 1 (ints r52.Starts), .row A61 n62 c63 2 1 (ints r59.1), .row A85 n86 c87 71 4 ((recs GPlace.cells) r83.Places)] := hs.ext hs1.below
          clear hs1
          have hs0 : St [] W w [.blk b1 24 [.int .i64 p0.Events, .slice A_p0_1 p0.Places.length c_p0_1], .blk b2 27 [.int .i64 p1.Period, .slice A_p1_1 p1.Starts.length c_p1_1], .row A41 n42 c43 2 1 (ints r39.1), .blk b51 34 [.int .i64 r45.Events, .slice A47 n48 c49], .row A47 n48 c49 71 4 ((recs GPlace.cells) r45.Places), .blk b58 36 [.int .i64 r52.Period, .slice A54 n55 c56], .row A54 n55 c56 2 1 (ints r52.Starts), .row A61 n62 c63 2 1 (ints r59.1)] := hs.sel [0, 1, 2, 3, 4, 5, 6, 7] (by decide)
          refine wpO_nil ⟨Or.inr hs0, ?_⟩
          refine gY (i := 4) [] rfl (by kernel_rfl) (by kernel_rfl) hf hs0 rfl rfl rfl (Y_not rfl rfl) ?_; clear hf; intro a hf
          refine gDone (by kernel_rfl) ?_
          clear hs0
          refine wpL_cond hf rfl (fun hb91 => ?_) (fun hb91 => ?_)
          · have hm := bif_t hm hb91
            refine wpL_seq ?_
            refine wpL_region ?_
            refine sY hf hs rfl rfl rfl (Y_assign rfl rfl) ?_; clear hf; intro a hf
            refine wpO_nil ?_
            obtain rfl := Option.some.inj hm
            refine wpL_ret (ret_tmp rfl hf rfl ?_)
            exact ⟨_, rfl, rfl, hs.sel [] (by decide)⟩
          · have hm := bif_f hm hb91
            refine wpL_skip ?_
            refine wpL_seq ?_
            refine wpL_seq ?_
            refine wpL_drawG [.blk b1 24 [.int .i64 p0.Events, .slice A_p0_1 p0.Places.length c_p0_1], .blk b2 27 [.int .i64 p1.Period, .slice A_p1_1 p1.Starts.length c_p1_1], .row A41 n42 c43 2 1 (ints r39.1), .blk b51 34 [.int .i64 r45.Events, .slice A47 n48 c49], .row A47 n48 c49 71 4 ((recs GPlace.cells) r45.Places), .blk b58 36 [.int .i64 r52.Period, .slice A54 n55 c56], .row A54 n55 c56 2 1 (ints r52.Starts), .row A61 n62 c63 2 1 (ints r59.1), .row A85 n86 c87 71 4 ((recs GPlace.cells) r83.Places)] 5 (by kernel_rfl) hs ?_; clear hs; intro w hs
            have hs0 : St [] W w [.blk b1 24 [.int .i64 p0.Events, .slice A_p0_1 p0.Places.length c_p0_1], .blk b2 27 [.int .i64 p1.Period, .slice A_p1_1 p1.Starts.length c_p1_1], .row A41 n42 c43 2 1 (ints r39.1), .blk b51 34 [.int .i64 r45.Events, .slice A47 n48 c49], .row A47 n48 c49 71 4 ((recs GPlace.cells) r45.Places), .blk b58 36 [.int .i64 r52.Period, .slice A54 n55 c56], .row A54 n55 c56 2 1 (ints r52.Starts), .row A61 n62 c63 2 1 (ints r59.1), .row A85 n86 c87 71 4 ((recs GPlace.cells) r83.Places)] := hs
            refine gY (i := 0) [] rfl (by kernel_rfl) (by kernel_rfl) hf hs0 rfl rfl rfl (Y_load_blkS rfl rfl (i := 5) rfl ag36 ti36 rfl) ?_; clear hf; intro a hf
            refine gY (i := 1) [] rfl (by kernel_rfl) (by kernel_rfl) hf hs0 rfl rfl rfl (Y_load_blkS rfl rfl (i := 1) rfl ag27 ti27 rfl) ?_; clear hf; intro a hf
            refine gRun (i := 2) rfl (by kernel_rfl) ?_
            obtain ⟨r100, hc101, hm⟩ := bind_some hm
            refine sCall hf rfl rfl rfl rfl (cap := []) rfl rfl en19 (laws_toTimetable_ok F p1 A_p1_1 p1.Starts.length c_p1_1 rfl _ _ hc101 (h_p1_1.at hs)) ?_; clear hf
            rintro _ w ⟨A102, n103, c104, rfl, hn105, hs1⟩ a hf
            have hs : St [] W w [.blk b1 24 [.int .i64 p0.Events, .slice A_p0_1 p0.Places.length c_p0_1], .blk b2 27 [.int .i64 p1.Period, .slice A_p1_1 p1.Starts.length c_p1_1], .row A41 n42 c43 2 1 (ints r39.1), .blk b51 34 [.int .i64 r45.Events, .slice A47 n48 c49], .row A47 n48 c49 71 4 ((recs GPlace.cells) r45.Places), .blk b58 36 [.int .i64 r52.Period, .slice A54 n55 c56], .row A54 n55 c56 2 1 (ints r52.Starts), .row A61 n62 c63 2 1 (ints r59.1), .row A85 n86 c87 71 4 ((recs GPlace.cells) r83.Places), .row A102 n103 c104 2 1 (ints r100.Starts)] := hs.join hs1
            clear hs1
            have hs0 : St [] W w [.blk b1 24 [.int .i64 p0.Events, .slice A_p0_1 p0.Places.length c_p0_1], .blk b2 27 [.int .i64 p1.Period, .slice A_p1_1 p1.Starts.length c_p1_1], .row A41 n42 c43 2 1 (ints r39.1), .blk b51 34 [.int .i64 r45.Events, .slice A47 n48 c49], .row A47 n48 c49 71 4 ((recs GPlace.cells) r45.Places), .blk b58 36 [.int .i64 r52.Period, .slice A54 n55 c56], .row A54 n55 c56 2 1 (ints r52.Starts), .row A61 n62 c63 2 1 (ints r59.1), .row A85 n86 c87 71 4 ((recs GPlace.cells) r83.Places)] := hs.sel [0, 1, 2, 3, 4, 5, 6, 7, 8] (by decide)
            refine wpO_nil ⟨Or.inr hs0, ?_⟩
            refine gRun (i := 3) rfl (by kernel_rfl) ?_
            obtain ⟨r106, hc107, hm⟩ := bind_some hm
            refine sCall hf rfl rfl rfl rfl (cap := []) rfl rfl en22 (laws_eqTimetable_ok F r52 A54 n55 c56 hn57 r100 A102 n103 c104 hn105 _ _ hc107 (hs.rd (i := 6) rfl) (hs.rd (i := 9) rfl)) ?_; clear hf
            rintro _ w ⟨rfl, hs1⟩ a hf
            have hs : St [] W w [.blk b1 24 [.int .i64 p0.Events, .slice A_p0_1 p0.Places.length c_p0_1], .blk b2 27 [.int .i64 p1.Period, .slice A_p1_1 p1.Starts.length c_p1_1], .row A41 n42 c43 2 1 (ints r39.1), .blk b51 34 [.int .i64 r45.Events, .slice A47 n48 c49], .row A47 n48 c49 71 4 ((recs GPlace.cells) r45.Places), .blk b58 36 [.int .i64 r52.Period, .slice A54 n55 c56], .row A54 n55 c56 2 1 (ints r52.Starts), .row A61 n62 c63 2 1 (ints r59.1), .row A85 n86 c87 71 4 ((recs GPlace.cells) r83.Places), .row A102 n103 c104 2 1 (ints r100.Starts)] := hs.ext hs1.below
            clear hs1
            have hs0 : St [] W w [.blk b1 24 [.int .i64 p0.Events, .slice A_p0_1 p0.Places.length c_p0_1], .blk b2 27 [.int .i64 p1.Period, .slice A_p1_1 p1.Starts.length c_p1_1], .row A41 n42 c43 2 1 (ints r39.1), .blk b51 34 [.int .i64 r45.Events, .slice A47 n48 c49], .row A47 n48 c49 71 4 ((recs GPlace.cells) r45.Places), .blk b58 36 [.int .i64 r52.Period, .slice A54 n55 c56], .row A54 n55 c56 2 1 (ints r52.Starts), .row A61 n62 c63 2 1 (ints r59.1), .row A85 n86 c87 71 4 ((recs GPlace.cells) r83.Places)] := hs.sel [0, 1, 2, 3, 4, 5, 6, 7, 8] (by decide)
            refine wpO_nil ⟨Or.inr hs0, ?_⟩
            refine gY (i := 4) [] rfl (by kernel_rfl) (by kernel_rfl) hf hs0 rfl rfl rfl (Y_not rfl rfl) ?_; clear hf; intro a hf
            refine gDone (by kernel_rfl) ?_
            clear hs0
            refine wpL_cond hf rfl (fun hb108 => ?_) (fun hb108 => ?_)
            · have hm := bif_t hm hb108
              refine wpL_seq ?_
              refine wpL_region ?_
              refine sY hf hs rfl rfl rfl (Y_assign rfl rfl) ?_; clear hf; intro a hf
              refine wpO_nil ?_
              obtain rfl := Option.some.inj hm
              refine wpL_ret (ret_tmp rfl hf rfl ?_)
              exact ⟨_, rfl, rfl, hs.sel [] (by decide)⟩
            · have hm := bif_f hm hb108
              refine wpL_skip ?_
              refine wpL_seq ?_
              refine wpL_region ?_
              refine sY hf hs rfl rfl rfl (Y_assign rfl rfl) ?_; clear hf; intro a hf
              refine wpO_nil ?_
              refine wpL_seq ?_
              refine wpL_region ?_
              refine sY hf hs rfl rfl rfl (Y_load_blkS rfl rfl (i := 3) rfl ag34 ti34 rfl) ?_; clear hf; intro a hf
              refine sY hf hs rfl rfl rfl (Y_move rfl rfl) ?_; clear hf; intro a hf
              obtain ⟨r109, hc110, hm⟩ := bind_some hm
              refine sCall hf rfl rfl rfl rfl (cap := []) rfl rfl en28 (laws_markEventGraph_ok F r45 A47 n48 c49 hn50 1 _ _ hc110 (hs.res _ _ (show _[4]? = some _ from rfl))) ?_; clear hf
              rintro _ w ⟨rfl, hn111, hs1⟩ a hf
              have hs : St [] W w [.blk b1 24 [.int .i64 p0.Events, .slice A_p0_1 p0.Places.length c_p0_1], .blk b2 27 [.int .i64 p1.Period, .slice A_p1_1 p1.Starts.length c_p1_1], .row A41 n42 c43 2 1 (ints r39.1), .blk b51 34 [.int .i64 r45.Events, .slice A47 n48 c49], .row A47 n48 c49 71 4 ((recs GPlace.cells) r109.2), .blk b58 36 [.int .i64 r52.Period, .slice A54 n55 c56], .row A54 n55 c56 2 1 (ints r52.Starts), .row A61 n62 c63 2 1 (ints r59.1), .row A85 n86 c87 71 4 ((recs GPlace.cells) r83.Places), .row A102 n103 c104 2 1 (ints r100.Starts)] := hs.mut (i := 4) rfl (fun b hb => muA_mem hb) hs1
              clear hs1
              refine sY hf hs rfl rfl rfl (Y_assign rfl rfl) ?_; clear hf; intro a hf
              refine wpO_nil ?_
              refine wpL_seq ?_
              refine wpL_region ?_
              refine sY hf hs rfl rfl rfl (Y_load_blkS rfl rfl (i := 5) rfl ag36 ti36 rfl) ?_; clear hf; intro a hf
              refine sY hf hs rfl rfl rfl (Y_move rfl rfl) ?_; clear hf; intro a hf
              obtain ⟨r112, hc113, hm⟩ := bind_some hm
              refine sCall hf rfl rfl rfl rfl (cap := []) rfl rfl en37 (laws_markTimetable_ok F r52 A54 n55 c56 hn57 r109.1 _ _ hc113 (hs.res _ _ (show _[6]? = some _ from rfl))) ?_; clear hf
              rintro _ w ⟨rfl, hn114, hs1⟩ a hf
              have hs : St [] W w [.blk b1 24 [.int .i64 p0.Events, .slice A_p0_1 p0.Places.length c_p0_1], .blk b2 27 [.int .i64 p1.Period, .slice A_p1_1 p1.Starts.length c_p1_1], .row A41 n42 c43 2 1 (ints r39.1), .blk b51 34 [.int .i64 r45.Events, .slice A47 n48 c49], .row A47 n48 c49 71 4 ((recs GPlace.cells) r109.2), .blk b58 36 [.int .i64 r52.Period, .slice A54 n55 c56], .row A54 n55 c56 2 1 (ints r112.2), .row A61 n62 c63 2 1 (ints r59.1), .row A85 n86 c87 71 4 ((recs GPlace.cells) r83.Places), .row A102 n103 c104 2 1 (ints r100.Starts)] := hs.mut (i := 6) rfl (fun b hb => muA_mem hb) hs1
              clear hs1
              refine sY hf hs rfl rfl rfl (Y_assign rfl rfl) ?_; clear hf; intro a hf
              refine wpO_nil ?_
              refine wpL_seq ?_
              refine wpL_seq ?_
              obtain ⟨r120, hj121, hm⟩ := bind_some hm
              refine wpL_cut (fun a w => ∃ b119 : Bool, b119 = r120 ∧ Fr a 129 [(2, .int .i64 p2), (3, .int .i64 p3), (4, .pointer (some ⟨b1, 0, none⟩)), (5, .pointer (some ⟨b2, 0, none⟩)), (10, .slice A41 n42 c43), (11, .int .i64 r39.2), (14, .slice A61 n62 c63), (90, .bool b119)] ∧ St [] W w [.blk b1 24 [.int .i64 p0.Events, .slice A_p0_1 p0.Places.length c_p0_1], .blk b2 27 [.int .i64 p1.Period, .slice A_p1_1 p1.Starts.length c_p1_1], .row A41 n42 c43 2 1 (ints r39.1), .row A61 n62 c63 2 1 (ints r59.1)]) ?_ ?_
              · refine wpL_region ?_
                refine sY hf hs rfl rfl rfl (Y_move rfl rfl) ?_; clear hf; intro a hf
                refine sY hf hs rfl rfl rfl (Y_lss rfl rfl rfl) ?_; clear hf; intro a hf
                refine sY hf hs rfl rfl rfl (Y_move rfl rfl) ?_; clear hf; intro a hf
                refine bsplit (decide (r112.1 < 0)) (fun hb122 => ?_) (fun hb122 => ?_)
                · have hj121 := bif_t hj121 hb122
                  refine sNo hf rfl rfl rfl (congrArg (fun b => some (Value.bool b)) hb122) rfl rfl rfl ?_; clear hf; intro a hf
                  refine sNo hf rfl rfl rfl (congrArg (fun b => some (Value.bool b)) hb122) rfl rfl rfl ?_; clear hf; intro a hf
                  refine sNo hf rfl rfl rfl (congrArg (fun b => some (Value.bool b)) hb122) rfl rfl rfl ?_; clear hf; intro a hf
                  refine sNo hf rfl rfl rfl (congrArg (fun b => some (Value.bool b)) hb122) rfl rfl rfl ?_; clear hf; intro a hf
                  refine sY hf hs rfl rfl rfl (Y_pickT rfl (congrArg (fun b => some (Value.bool b)) hb122) rfl) ?_; clear hf; intro a hf
                  refine sY hf hs rfl rfl rfl (Y_move rfl rfl) ?_; clear hf; intro a hf
                  refine sNo hf rfl rfl rfl rfl rfl rfl rfl ?_; clear hf; intro a hf
                  refine sNo hf rfl rfl rfl rfl rfl rfl rfl ?_; clear hf; intro a hf
                  refine sNo hf rfl rfl rfl rfl rfl rfl rfl ?_; clear hf; intro a hf
                  refine sY hf hs rfl rfl rfl (Y_pickT rfl rfl rfl) ?_; clear hf; intro a hf
                  refine wpO_nil ?_
                  refine wpL_nil (then_normal ?_)
                  exact ⟨true, Option.some.inj hj121, (Fr.pick (Fr.pick (Fr.pick (Fr.pick (Fr.pick (Fr.pick (Fr.pick (Fr.pick hf.none hf rfl) hf rfl) hf rfl) hf rfl) hf rfl) hf rfl) hf rfl) hf rfl), hs.sel [0, 1, 2, 7] (by decide)⟩
                · have hj121 := bif_f hj121 hb122
                  refine sYg hf hs rfl rfl rfl (congrArg (fun b => some (Value.bool b)) hb122) rfl rfl rfl (Y_move rfl rfl) ?_; clear hf; intro a hf
                  refine sYg hf hs rfl rfl rfl (congrArg (fun b => some (Value.bool b)) hb122) rfl rfl rfl (Y_move rfl rfl) ?_; clear hf; intro a hf
                  obtain ⟨r123, hc124, hj121⟩ := bind_some hj121
                  refine sCallg hf rfl rfl rfl (congrArg (fun b => some (Value.bool b)) hb122) rfl rfl rfl rfl (cap := []) rfl rfl en34 (laws_eqInt64S_ok F r59.1 A61 n62 c63 hn64 r39.1 A41 n42 c43 hn44 _ _ hc124 (hs.rd (i := 7) rfl) (hs.rd (i := 2) rfl)) ?_; clear hf
                  rintro _ w ⟨rfl, hs1⟩ a hf
                  have hs : St [] W w [.blk b1 24 [.int .i64 p0.Events, .slice A_p0_1 p0.Places.length c_p0_1], .blk b2 27 [.int .i64 p1.Period, .slice A_p1_1 p1.Starts.length c_p1_1], .row A41 n42 c43 2 1 (ints r39.1), .blk b51 34 [.int .i64 r45.Events, .slice A47 n48 c49], .row A47 n48 c49 71 4 ((recs GPlace.cells) r109.2), .blk b58 36 [.int .i64 r52.Period, .slice A54 n55 c56], .row A54 n55 c56 2 1 (ints r112.2), .row A61 n62 c63 2 1 (ints r59.1), .row A85 n86 c87 71 4 ((recs GPlace.cells) r83.Places), .row A102 n103 c104 2 1 (ints r100.Starts)] := hs.ext hs1.below
                  clear hs1
                  refine sYg hf hs rfl rfl rfl (congrArg (fun b => some (Value.bool b)) hb122) rfl rfl rfl (Y_not rfl rfl) ?_; clear hf; intro a hf
                  refine sY hf hs rfl rfl rfl (Y_pickF rfl (congrArg (fun b => some (Value.bool b)) hb122) rfl) ?_; clear hf; intro a hf
                  refine sY hf hs rfl rfl rfl (Y_move rfl rfl) ?_; clear hf; intro a hf
                  refine bsplit (!r123) (fun hb125 => ?_) (fun hb125 => ?_)
                  · have hj121 := bif_t hj121 hb125
                    refine sNo hf rfl rfl rfl (congrArg (fun b => some (Value.bool b)) hb125) rfl rfl rfl ?_; clear hf; intro a hf
                    refine sNo hf rfl rfl rfl (congrArg (fun b => some (Value.bool b)) hb125) rfl rfl rfl ?_; clear hf; intro a hf
                    refine sNo hf rfl rfl rfl (congrArg (fun b => some (Value.bool b)) hb125) rfl rfl rfl ?_; clear hf; intro a hf
                    refine sY hf hs rfl rfl rfl (Y_pickT rfl (congrArg (fun b => some (Value.bool b)) hb125) rfl) ?_; clear hf; intro a hf
                    refine wpO_nil ?_
                    refine wpL_nil (then_normal ?_)
                    exact ⟨true, Option.some.inj hj121, (Fr.pick (Fr.pick (Fr.pick (Fr.pick (Fr.pick (Fr.pick (Fr.pick (Fr.pick hf.none hf rfl) hf rfl) hf rfl) hf rfl) hf rfl) hf rfl) hf rfl) hf rfl), hs.sel [0, 1, 2, 7] (by decide)⟩
                  · have hj121 := bif_f hj121 hb125
                    refine sYg hf hs rfl rfl rfl (congrArg (fun b => some (Value.bool b)) hb125) rfl rfl rfl (Y_move rfl rfl) ?_; clear hf; intro a hf
                    refine sYg hf hs rfl rfl rfl (congrArg (fun b => some (Value.bool b)) hb125) rfl rfl rfl (Y_move rfl rfl) ?_; clear hf; intro a hf
                    refine sYg hf hs rfl rfl rfl (congrArg (fun b => some (Value.bool b)) hb125) rfl rfl rfl (Y_neq rfl rfl rfl) ?_; clear hf; intro a hf
                    refine sY hf hs rfl rfl rfl (Y_pickF rfl (congrArg (fun b => some (Value.bool b)) hb125) rfl) ?_; clear hf; intro a hf
                    refine wpO_nil ?_
                    refine wpL_nil (then_normal ?_)
                    exact ⟨(r59.2 != r39.2), Option.some.inj hj121, (Fr.pick (Fr.pick (Fr.pick (Fr.pick (Fr.pick (Fr.pick (Fr.pick (Fr.pick hf.none hf rfl) hf rfl) hf rfl) hf rfl) hf rfl) hf rfl) hf rfl) hf rfl), hs.sel [0, 1, 2, 7] (by decide)⟩
              · rintro a w ⟨b119, hr_, hf, hs⟩
                subst hr_
                try dsimp only at hm
                refine wpL_cond hf rfl (fun hb126 => ?_) (fun hb126 => ?_)
                · have hm := bif_t hm hb126
                  refine wpL_seq ?_
                  refine wpL_region ?_
                  refine sY hf hs rfl rfl rfl (Y_assign rfl rfl) ?_; clear hf; intro a hf
                  refine wpO_nil ?_
                  obtain rfl := Option.some.inj hm
                  refine wpL_ret (ret_tmp rfl hf rfl ?_)
                  exact ⟨_, rfl, rfl, hs.sel [] (by decide)⟩
                · have hm := bif_f hm hb126
                  refine wpL_skip ?_
                  refine wpL_seq ?_
                  refine wpL_region ?_
                  refine sY hf hs rfl rfl rfl (Y_assign rfl rfl) ?_; clear hf; intro a hf
                  refine wpO_nil ?_
                  refine wpL_seq ?_
                  refine wpL_region ?_
                  refine sY hf hs rfl rfl rfl (Y_move rfl rfl) ?_; clear hf; intro a hf
                  refine sY hf hs rfl rfl rfl (Y_move rfl rfl) ?_; clear hf; intro a hf
                  obtain ⟨r127, hc128, hm⟩ := bind_some hm
                  refine sCall hf rfl rfl rfl rfl (cap := []) rfl rfl en38 (laws_markInt64S_ok F r59.1 A61 n62 c63 hn64 1 _ _ hc128 (hs.res _ _ (show _[3]? = some _ from rfl))) ?_; clear hf
                  rintro _ w ⟨rfl, hn129, hs1⟩ a hf
                  have hs : St [] W w [.blk b1 24 [.int .i64 p0.Events, .slice A_p0_1 p0.Places.length c_p0_1], .blk b2 27 [.int .i64 p1.Period, .slice A_p1_1 p1.Starts.length c_p1_1], .row A41 n42 c43 2 1 (ints r39.1), .row A61 n62 c63 2 1 (ints r127.2)] := hs.mut (i := 3) rfl (fun b hb => muA_mem hb) hs1
                  clear hs1
                  refine sY hf hs rfl rfl rfl (Y_assign rfl rfl) ?_; clear hf; intro a hf
                  refine wpO_nil ?_
                  refine wpL_seq ?_
                  refine wpL_region ?_
                  refine sY hf hs rfl rfl rfl (Y_assign rfl rfl) ?_; clear hf; intro a hf
                  refine wpO_nil ?_
                  refine wpL_seq ?_
                  refine wpL_region ?_
                  refine sY hf hs rfl rfl rfl (Y_move rfl rfl) ?_; clear hf; intro a hf
                  refine sY hf hs rfl rfl rfl (Y_move rfl rfl) ?_; clear hf; intro a hf
                  obtain ⟨r130, hc131, hm⟩ := bind_some hm
                  refine sCall hf rfl rfl rfl rfl (cap := []) rfl rfl en41 (laws_heldInt64S_ok F r127.2 A61 n62 c63 hn129 1 _ _ hc131 (hs.rd (i := 3) rfl)) ?_; clear hf
                  rintro _ w ⟨rfl, hs1⟩ a hf
                  have hs : St [] W w [.blk b1 24 [.int .i64 p0.Events, .slice A_p0_1 p0.Places.length c_p0_1], .blk b2 27 [.int .i64 p1.Period, .slice A_p1_1 p1.Starts.length c_p1_1], .row A41 n42 c43 2 1 (ints r39.1), .row A61 n62 c63 2 1 (ints r127.2)] := hs.ext hs1.below
                  clear hs1
                  refine sY hf hs rfl rfl rfl (Y_assign rfl rfl) ?_; clear hf; intro a hf
                  refine wpO_nil ?_
                  refine wpL_seq ?_
                  refine wpL_seq ?_
                  refine wpL_region ?_
                  refine sY hf hs rfl rfl rfl (Y_move rfl rfl) ?_; clear hf; intro a hf
                  refine sY hf hs rfl rfl rfl (Y_lss rfl rfl rfl) ?_; clear hf; intro a hf
                  refine wpO_nil ?_
                  refine wpL_cond hf rfl (fun hb132 => ?_) (fun hb132 => ?_)
                  · have hm := bif_t hm hb132
                    refine wpL_seq ?_
                    refine wpL_region ?_
                    refine sY hf hs rfl rfl rfl (Y_assign rfl rfl) ?_; clear hf; intro a hf
                    refine wpO_nil ?_
                    obtain rfl := Option.some.inj hm
                    refine wpL_ret (ret_tmp rfl hf rfl ?_)
                    exact ⟨_, rfl, rfl, hs.sel [] (by decide)⟩
                  · have hm := bif_f hm hb132
                    refine wpL_skip ?_
                    refine wpL_seq ?_
                    refine wpL_seq ?_
                    refine wpL_region ?_
                    refine sY hf hs rfl rfl rfl (Y_move rfl rfl) ?_; clear hf; intro a hf
                    refine sY hf hs rfl rfl rfl (Y_move rfl rfl) ?_; clear hf; intro a hf
                    refine sY hf hs rfl rfl rfl (Y_neq rfl rfl rfl) ?_; clear hf; intro a hf
                    refine wpO_nil ?_
                    refine wpL_cond hf rfl (fun hb133 => ?_) (fun hb133 => ?_)
                    · have hm := bif_t hm hb133
                      refine wpL_seq ?_
                      refine wpL_region ?_
                      refine sY hf hs rfl rfl rfl (Y_assign rfl rfl) ?_; clear hf; intro a hf
                      refine wpO_nil ?_
                      obtain rfl := Option.some.inj hm
                      refine wpL_ret (ret_tmp rfl hf rfl ?_)
                      exact ⟨_, rfl, rfl, hs.sel [] (by decide)⟩
                    · have hm := bif_f hm hb133
                      refine wpL_skip ?_
                      refine wpL_seq ?_
                      refine wpL_drawG [.blk b1 24 [.int .i64 p0.Events, .slice A_p0_1 p0.Places.length c_p0_1], .blk b2 27 [.int .i64 p1.Period, .slice A_p1_1 p1.Starts.length c_p1_1], .row A41 n42 c43 2 1 (ints r39.1), .row A61 n62 c63 2 1 (ints r127.2)] 12 (by kernel_rfl) hs ?_; clear hs; intro w hs
                      have hs0 : St [] W w [.blk b1 24 [.int .i64 p0.Events, .slice A_p0_1 p0.Places.length c_p0_1], .blk b2 27 [.int .i64 p1.Period, .slice A_p1_1 p1.Starts.length c_p1_1], .row A41 n42 c43 2 1 (ints r39.1), .row A61 n62 c63 2 1 (ints r127.2)] := hs
                      refine gY (i := 0) [] rfl (by kernel_rfl) (by kernel_rfl) hf hs0 rfl rfl rfl (Y_load_blkS rfl rfl (i := 0) rfl ag24 ti24 rfl) ?_; clear hf; intro a hf
                      refine gY (i := 2) [] rfl (by kernel_rfl) (by kernel_rfl) hf hs0 rfl rfl rfl (Y_load_blkS rfl rfl (i := 1) rfl ag27 ti27 rfl) ?_; clear hf; intro a hf
                      refine gY (i := 4) [] rfl (by kernel_rfl) (by kernel_rfl) hf hs0 rfl rfl rfl (Y_move rfl rfl) ?_; clear hf; intro a hf
                      refine gY (i := 5) [] rfl (by kernel_rfl) (by kernel_rfl) hf hs0 rfl rfl rfl (Y_move rfl rfl) ?_; clear hf; intro a hf
                      refine gRun (i := 1) rfl (by kernel_rfl) ?_
                      obtain ⟨r152, hc153, hm⟩ := bind_some hm
                      refine sCall hf rfl rfl rfl rfl (cap := []) rfl rfl en18 (laws_toEventGraph_ok F p0 A_p0_1 p0.Places.length c_p0_1 rfl _ _ hc153 (h_p0_1.at hs)) ?_; clear hf
                      rintro _ w ⟨A154, n155, c156, rfl, hn157, hs1⟩ a hf
                      have hs : St [] W w [.blk b1 24 [.int .i64 p0.Events, .slice A_p0_1 p0.Places.length c_p0_1], .blk b2 27 [.int .i64 p1.Period, .slice A_p1_1 p1.Starts.length c_p1_1], .row A41 n42 c43 2 1 (ints r39.1), .row A61 n62 c63 2 1 (ints r127.2), .row A154 n155 c156 71 4 ((recs GPlace.cells) r152.Places)] := hs.join hs1
                      clear hs1
                      have hs0 : St [] W w [.blk b1 24 [.int .i64 p0.Events, .slice A_p0_1 p0.Places.length c_p0_1], .blk b2 27 [.int .i64 p1.Period, .slice A_p1_1 p1.Starts.length c_p1_1], .row A41 n42 c43 2 1 (ints r39.1), .row A61 n62 c63 2 1 (ints r127.2)] := hs.sel [0, 1, 2, 3] (by decide)
                      refine wpO_nil ⟨Or.inr hs0, ?_⟩
                      refine gRun (i := 3) rfl (by kernel_rfl) ?_
                      obtain ⟨r158, hc159, hm⟩ := bind_some hm
                      refine sCall hf rfl rfl rfl rfl (cap := []) rfl rfl en19 (laws_toTimetable_ok F p1 A_p1_1 p1.Starts.length c_p1_1 rfl _ _ hc159 (h_p1_1.at hs)) ?_; clear hf
                      rintro _ w ⟨A160, n161, c162, rfl, hn163, hs1⟩ a hf
                      have hs : St [] W w [.blk b1 24 [.int .i64 p0.Events, .slice A_p0_1 p0.Places.length c_p0_1], .blk b2 27 [.int .i64 p1.Period, .slice A_p1_1 p1.Starts.length c_p1_1], .row A41 n42 c43 2 1 (ints r39.1), .row A61 n62 c63 2 1 (ints r127.2), .row A154 n155 c156 71 4 ((recs GPlace.cells) r152.Places), .row A160 n161 c162 2 1 (ints r158.Starts)] := hs.join hs1
                      clear hs1
                      have hs0 : St [] W w [.blk b1 24 [.int .i64 p0.Events, .slice A_p0_1 p0.Places.length c_p0_1], .blk b2 27 [.int .i64 p1.Period, .slice A_p1_1 p1.Starts.length c_p1_1], .row A41 n42 c43 2 1 (ints r39.1), .row A61 n62 c63 2 1 (ints r127.2)] := hs.sel [0, 1, 2, 3] (by decide)
                      refine wpO_nil ⟨Or.inr hs0, ?_⟩
                      refine gRun (i := 6) rfl (by kernel_rfl) ?_
                      obtain ⟨r164, hc165, hm⟩ := bind_some hm
                      refine sCall hf rfl rfl rfl rfl (cap := []) rfl rfl en43 (impl_DelayedEvents_ok F r152 A154 n155 c156 hn157 r158 A160 n161 c162 hn163 p2 p3 _ _ hc165 (hs.rd (i := 4) rfl) (hs.rd (i := 5) rfl)) ?_; clear hf
                      rintro _ w ⟨A166, n167, c168, rfl, hn169, hs1⟩ a hf
                      have hs : St [] W w [.blk b1 24 [.int .i64 p0.Events, .slice A_p0_1 p0.Places.length c_p0_1], .blk b2 27 [.int .i64 p1.Period, .slice A_p1_1 p1.Starts.length c_p1_1], .row A41 n42 c43 2 1 (ints r39.1), .row A61 n62 c63 2 1 (ints r127.2), .row A154 n155 c156 71 4 ((recs GPlace.cells) r152.Places), .row A160 n161 c162 2 1 (ints r158.Starts), .row A166 n167 c168 2 1 (ints r164.1)] := hs.join hs1
                      clear hs1
                      have hs0 : St [] W w [.blk b1 24 [.int .i64 p0.Events, .slice A_p0_1 p0.Places.length c_p0_1], .blk b2 27 [.int .i64 p1.Period, .slice A_p1_1 p1.Starts.length c_p1_1], .row A41 n42 c43 2 1 (ints r39.1), .row A61 n62 c63 2 1 (ints r127.2)] := hs.sel [0, 1, 2, 3] (by decide)
                      refine wpO_nil ⟨Or.inr hs0, ?_⟩
                      refine gY (i := 7) [] rfl (by kernel_rfl) (by kernel_rfl) hf hs0 rfl rfl rfl (Y_move rfl rfl) ?_; clear hf; intro a hf
                      refine gY (i := 8) [] rfl (by kernel_rfl) (by kernel_rfl) hf hs0 rfl rfl rfl (Y_extract rfl rfl rfl) ?_; clear hf; intro a hf
                      refine gY (i := 9) [] rfl (by kernel_rfl) (by kernel_rfl) hf hs0 rfl rfl rfl (Y_extract rfl rfl rfl) ?_; clear hf; intro a hf
                      refine gY (i := 10) [] rfl (by kernel_rfl) (by kernel_rfl) hf hs0 rfl rfl rfl (Y_assign rfl rfl) ?_; clear hf; intro a hf
                      refine gY (i := 11) [] rfl (by kernel_rfl) (by kernel_rfl) hf hs0 rfl rfl rfl (Y_assign rfl rfl) ?_; clear hf; intro a hf
                      refine gDone (by kernel_rfl) ?_
                      clear hs0
                      refine wpL_seq ?_
                      refine wpL_seq ?_
                      obtain ⟨r174, hj175, hm⟩ := bind_some hm
                      refine wpL_cut (fun a w => ∃ b173 : Bool, b173 = r174 ∧ Fr a 129 [(14, .slice A61 n62 c63), (17, .int .i64 r127.1), (120, .bool b173)] ∧ St [] W w [.row A61 n62 c63 2 1 (ints r127.2)]) ?_ ?_
                      · refine wpL_region ?_
                        refine sY hf hs rfl rfl rfl (Y_move rfl rfl) ?_; clear hf; intro a hf
                        refine sY hf hs rfl rfl rfl (Y_move rfl rfl) ?_; clear hf; intro a hf
                        obtain ⟨r176, hc177, hj175⟩ := bind_some hj175
                        refine sCall hf rfl rfl rfl rfl (cap := []) rfl rfl en34 (laws_eqInt64S_ok F r164.1 A166 n167 c168 hn169 r39.1 A41 n42 c43 hn44 _ _ hc177 (hs.rd (i := 6) rfl) (hs.rd (i := 2) rfl)) ?_; clear hf
                        rintro _ w ⟨rfl, hs1⟩ a hf
                        have hs : St [] W w [.blk b1 24 [.int .i64 p0.Events, .slice A_p0_1 p0.Places.length c_p0_1], .blk b2 27 [.int .i64 p1.Period, .slice A_p1_1 p1.Starts.length c_p1_1], .row A41 n42 c43 2 1 (ints r39.1), .row A61 n62 c63 2 1 (ints r127.2), .row A154 n155 c156 71 4 ((recs GPlace.cells) r152.Places), .row A160 n161 c162 2 1 (ints r158.Starts), .row A166 n167 c168 2 1 (ints r164.1)] := hs.ext hs1.below
                        clear hs1
                        refine sY hf hs rfl rfl rfl (Y_not rfl rfl) ?_; clear hf; intro a hf
                        refine sY hf hs rfl rfl rfl (Y_move rfl rfl) ?_; clear hf; intro a hf
                        refine bsplit (!r176) (fun hb178 => ?_) (fun hb178 => ?_)
                        · have hj175 := bif_t hj175 hb178
                          refine sNo hf rfl rfl rfl (congrArg (fun b => some (Value.bool b)) hb178) rfl rfl rfl ?_; clear hf; intro a hf
                          refine sNo hf rfl rfl rfl (congrArg (fun b => some (Value.bool b)) hb178) rfl rfl rfl ?_; clear hf; intro a hf
                          refine sNo hf rfl rfl rfl (congrArg (fun b => some (Value.bool b)) hb178) rfl rfl rfl ?_; clear hf; intro a hf
                          refine sY hf hs rfl rfl rfl (Y_pickT rfl (congrArg (fun b => some (Value.bool b)) hb178) rfl) ?_; clear hf; intro a hf
                          refine wpO_nil ?_
                          refine wpL_nil (then_normal ?_)
                          exact ⟨true, Option.some.inj hj175, (Fr.pick (Fr.pick (Fr.pick hf.none hf rfl) hf rfl) hf rfl), hs.sel [3] (by decide)⟩
                        · have hj175 := bif_f hj175 hb178
                          refine sYg hf hs rfl rfl rfl (congrArg (fun b => some (Value.bool b)) hb178) rfl rfl rfl (Y_move rfl rfl) ?_; clear hf; intro a hf
                          refine sYg hf hs rfl rfl rfl (congrArg (fun b => some (Value.bool b)) hb178) rfl rfl rfl (Y_move rfl rfl) ?_; clear hf; intro a hf
                          refine sYg hf hs rfl rfl rfl (congrArg (fun b => some (Value.bool b)) hb178) rfl rfl rfl (Y_neq rfl rfl rfl) ?_; clear hf; intro a hf
                          refine sY hf hs rfl rfl rfl (Y_pickF rfl (congrArg (fun b => some (Value.bool b)) hb178) rfl) ?_; clear hf; intro a hf
                          refine wpO_nil ?_
                          refine wpL_nil (then_normal ?_)
                          exact ⟨(r164.2 != r39.2), Option.some.inj hj175, (Fr.pick (Fr.pick (Fr.pick hf.none hf rfl) hf rfl) hf rfl), hs.sel [3] (by decide)⟩
                      · rintro a w ⟨b173, hr_, hf, hs⟩
                        subst hr_
                        try dsimp only at hm
                        refine wpL_cond hf rfl (fun hb179 => ?_) (fun hb179 => ?_)
                        · have hm := bif_t hm hb179
                          refine wpL_seq ?_
                          refine wpL_region ?_
                          refine sY hf hs rfl rfl rfl (Y_assign rfl rfl) ?_; clear hf; intro a hf
                          refine wpO_nil ?_
                          obtain rfl := Option.some.inj hm
                          refine wpL_ret (ret_tmp rfl hf rfl ?_)
                          exact ⟨_, rfl, rfl, hs.sel [] (by decide)⟩
                        · have hm := bif_f hm hb179
                          refine wpL_skip ?_
                          refine wpL_seq ?_
                          refine wpL_region ?_
                          refine sY hf hs rfl rfl rfl (Y_assign rfl rfl) ?_; clear hf; intro a hf
                          refine wpO_nil ?_
                          refine wpL_seq ?_
                          refine wpL_region ?_
                          refine sY hf hs rfl rfl rfl (Y_move rfl rfl) ?_; clear hf; intro a hf
                          refine sY hf hs rfl rfl rfl (Y_move rfl rfl) ?_; clear hf; intro a hf
                          obtain ⟨r180, hc181, hm⟩ := bind_some hm
                          refine sCall hf rfl rfl rfl rfl (cap := []) rfl rfl en41 (laws_heldInt64S_ok F r127.2 A61 n62 c63 hn129 1 _ _ hc181 (hs.rd (i := 0) rfl)) ?_; clear hf
                          rintro _ w ⟨rfl, hs1⟩ a hf
                          have hs : St [] W w [.row A61 n62 c63 2 1 (ints r127.2)] := hs.ext hs1.below
                          clear hs1
                          refine sY hf hs rfl rfl rfl (Y_assign rfl rfl) ?_; clear hf; intro a hf
                          refine wpO_nil ?_
                          refine wpL_seq ?_
                          refine wpL_seq ?_
                          refine wpL_region ?_
                          refine sY hf hs rfl rfl rfl (Y_move rfl rfl) ?_; clear hf; intro a hf
                          refine sY hf hs rfl rfl rfl (Y_lss rfl rfl rfl) ?_; clear hf; intro a hf
                          refine wpO_nil ?_
                          refine wpL_cond hf rfl (fun hb182 => ?_) (fun hb182 => ?_)
                          · have hm := bif_t hm hb182
                            refine wpL_seq ?_
                            refine wpL_region ?_
                            refine sY hf hs rfl rfl rfl (Y_assign rfl rfl) ?_; clear hf; intro a hf
                            refine wpO_nil ?_
                            obtain rfl := Option.some.inj hm
                            refine wpL_ret (ret_tmp rfl hf rfl ?_)
                            exact ⟨_, rfl, rfl, hs.sel [] (by decide)⟩
                          · have hm := bif_f hm hb182
                            refine wpL_skip ?_
                            refine wpL_seq ?_
                            refine wpL_seq ?_
                            refine wpL_region ?_
                            refine sY hf hs rfl rfl rfl (Y_move rfl rfl) ?_; clear hf; intro a hf
                            refine sY hf hs rfl rfl rfl (Y_move rfl rfl) ?_; clear hf; intro a hf
                            refine sY hf hs rfl rfl rfl (Y_neq rfl rfl rfl) ?_; clear hf; intro a hf
                            refine wpO_nil ?_
                            refine wpL_cond hf rfl (fun hb183 => ?_) (fun hb183 => ?_)
                            · have hm := bif_t hm hb183
                              refine wpL_seq ?_
                              refine wpL_region ?_
                              refine sY hf hs rfl rfl rfl (Y_assign rfl rfl) ?_; clear hf; intro a hf
                              refine wpO_nil ?_
                              obtain rfl := Option.some.inj hm
                              refine wpL_ret (ret_tmp rfl hf rfl ?_)
                              exact ⟨_, rfl, rfl, hs.sel [] (by decide)⟩
                            · have hm := bif_f hm hb183
                              refine wpL_skip ?_
                              refine wpL_seq ?_
                              refine wpL_region ?_
                              refine sY hf hs rfl rfl rfl (Y_assign rfl rfl) ?_; clear hf; intro a hf
                              refine wpO_nil ?_
                              obtain rfl := Option.some.inj hm
                              refine wpL_ret (ret_tmp rfl hf rfl ?_)
                              exact ⟨_, rfl, rfl, hs.sel [] (by decide)⟩

end Go.Proofs.Ythbcakdjdbfepaa
