/- The functions do what their models say. -/
import Derived.Test.YtpmebacdmilecaaTotalDelayLifted2
import Derived.Test.YtpmebacdmilecaaRows
namespace Go.Proofs.Ytpmebacdmilecaa
open Go.RowKit

set_option maxRecDepth 100000 in
theorem impl_checkDelays_ok (F : Nat) (p0_g : GEventGraph) (A_p0_g_1 : Option Addr) (n_p0_g_1 c_p0_g_1 : Nat) (hn_p0_g_1 : n_p0_g_1 = p0_g.Places.length) (p1_t : GTimetable) (A_p1_t_1 : Option Addr) (n_p1_t_1 c_p1_t_1 : Nat) (hn_p1_t_1 : n_p1_t_1 = p1_t.Starts.length) (p2_delays : List Int) (A_p2_delays_1 : Option Addr) (n_p2_delays_1 c_p2_delays_1 : Nat) (hn_p2_delays_1 : n_p2_delays_1 = p2_delays.length) (p3_ok : Bool) (r : Int) (W : World) (hm : impl_checkDelays F p0_g p1_t p2_delays p3_ok = some r) (h_p0_g_1 : Rd W A_p0_g_1 ((recs GPlace.cells) p0_g.Places)) (h_p1_t_1 : Rd W A_p1_t_1 (ints p1_t.Starts)) (h_p2_delays_1 : Rd W A_p2_delays_1 (ints p2_delays)) :
    Calls Try.prog 121 [.agg #[.int .i64 p0_g.Events, .slice A_p0_g_1 n_p0_g_1 c_p0_g_1], .agg #[.int .i64 p1_t.Period, .slice A_p1_t_1 n_p1_t_1 c_p1_t_1], .slice A_p2_delays_1 n_p2_delays_1 c_p2_delays_1, .bool p3_ok].toArray W fun e w' => ∃ v, e = .returned v ∧ v = .int .i64 r ∧ St [] W w' [] := by
  subst hn_p0_g_1
  subst hn_p1_t_1
  subst hn_p2_delays_1
  unfold impl_checkDelays at hm
  refine Calls.enter (N := 44) Try.func121 rfl rfl rfl (fun a hf => ?_)
  have hs := St.start W
  obtain ⟨w, hw_⟩ : ∃ w, w = W := ⟨W, rfl⟩
  clear hw_ w
  refine wpL_seq ?_
  refine wpL_region ?_
  refine sBox hf hs rfl rfl rfl rfl rfl (cs := [.int .i64 p0_g.Events, .slice A_p0_g_1 p0_g.Places.length c_p0_g_1]) rfl ?_; clear hf hs; intro a w b1 hs hf
  have hs : St [] W w [.blk b1 39 [.int .i64 p0_g.Events, .slice A_p0_g_1 p0_g.Places.length c_p0_g_1]] := hs
  refine sBox hf hs rfl rfl rfl rfl rfl (cs := [.int .i64 p1_t.Period, .slice A_p1_t_1 p1_t.Starts.length c_p1_t_1]) rfl ?_; clear hf hs; intro a w b2 hs hf
  have hs : St [] W w [.blk b1 39 [.int .i64 p0_g.Events, .slice A_p0_g_1 p0_g.Places.length c_p0_g_1], .blk b2 67 [.int .i64 p1_t.Period, .slice A_p1_t_1 p1_t.Starts.length c_p1_t_1]] := hs
  refine sY hf hs rfl rfl rfl (Y_assign rfl rfl) ?_; clear hf; intro a hf
  refine wpO_nil ?_
  refine wpL_seq ?_
  refine wpL_block0 ?_
  refine wpL_seq ?_
  refine wpL_region ?_
  refine sY hf hs rfl rfl rfl (Y_load_blkS rfl rfl (i := 0) rfl ag39 ti39 rfl) ?_; clear hf; intro a hf
  obtain ⟨r3, hc4, hm⟩ := bind_some hm
  refine sCall hf rfl rfl rfl rfl (cap := []) rfl rfl en79 (impl_IsEventGraph_ok F p0_g A_p0_g_1 p0_g.Places.length c_p0_g_1 rfl _ _ hc4 (h_p0_g_1.at hs)) ?_; clear hf
  rintro _ w ⟨rfl, hs1⟩ a hf
  have hs : St [] W w [.blk b1 39 [.int .i64 p0_g.Events, .slice A_p0_g_1 p0_g.Places.length c_p0_g_1], .blk b2 67 [.int .i64 p1_t.Period, .slice A_p1_t_1 p1_t.Starts.length c_p1_t_1]] := hs.ext hs1.below
  clear hs1
  refine sY hf hs rfl rfl rfl (Y_not rfl rfl) ?_; clear hf; intro a hf
  refine sY hf hs rfl rfl rfl (Y_assign rfl rfl) ?_; clear hf; intro a hf
  refine wpO_nil ?_
  refine wpL_cond hf rfl (fun hb5 => ?_) (fun hb5 => ?_)
  · have hm := bif_t hm hb5
    refine wpL_seq ?_
    refine wpL_region ?_
    refine sY hf hs rfl rfl rfl (Y_assign rfl rfl) ?_; clear hf; intro a hf
    refine wpO_nil ?_
    obtain rfl := Option.some.inj hm
    refine wpL_ret (Qb_ret (ret_tmp rfl hf rfl ?_))
    exact ⟨_, rfl, rfl, hs.sel [] (by decide)⟩
  · have hm := bif_f hm hb5
    refine wpL_seq ?_
    obtain ⟨r14, hj15, hm⟩ := bind_some hm
    refine wpL_cut (fun a w => ∃ b13 : Bool, b13 = r14 ∧ Fr a 44 [(4, .pointer (some ⟨b1, 0, none⟩)), (5, .pointer (some ⟨b2, 0, none⟩)), (13, .bool b13)] ∧ St [] W w [.blk b1 39 [.int .i64 p0_g.Events, .slice A_p0_g_1 p0_g.Places.length c_p0_g_1], .blk b2 67 [.int .i64 p1_t.Period, .slice A_p1_t_1 p1_t.Starts.length c_p1_t_1]]) ?_ ?_
    · refine wpL_region ?_
      refine sY hf hs rfl rfl rfl (Y_load_blkS rfl rfl (i := 0) rfl ag39 ti39 rfl) ?_; clear hf; intro a hf
      refine sY hf hs rfl rfl rfl (Y_load_blkS rfl rfl (i := 1) rfl ag67 ti67 rfl) ?_; clear hf; intro a hf
      obtain ⟨r16, hc17, hj15⟩ := bind_some hj15
      refine sCall hf rfl rfl rfl rfl (cap := []) rfl rfl en166 (impl_isTimetable_ok F p0_g A_p0_g_1 p0_g.Places.length c_p0_g_1 rfl p1_t A_p1_t_1 p1_t.Starts.length c_p1_t_1 rfl _ _ hc17 (h_p0_g_1.at hs) (h_p1_t_1.at hs)) ?_; clear hf
      rintro _ w ⟨rfl, hs1⟩ a hf
      have hs : St [] W w [.blk b1 39 [.int .i64 p0_g.Events, .slice A_p0_g_1 p0_g.Places.length c_p0_g_1], .blk b2 67 [.int .i64 p1_t.Period, .slice A_p1_t_1 p1_t.Starts.length c_p1_t_1]] := hs.ext hs1.below
      clear hs1
      refine sY hf hs rfl rfl rfl (Y_not rfl rfl) ?_; clear hf; intro a hf
      refine sY hf hs rfl rfl rfl (Y_move rfl rfl) ?_; clear hf; intro a hf
      refine bsplit (!r16) (fun hb18 => ?_) (fun hb18 => ?_)
      · have hj15 := bif_t hj15 hb18
        refine sNo hf rfl rfl rfl (congrArg (fun b => some (Value.bool b)) hb18) rfl rfl rfl ?_; clear hf; intro a hf
        refine sNo hf rfl rfl rfl (congrArg (fun b => some (Value.bool b)) hb18) rfl rfl rfl ?_; clear hf; intro a hf
        refine sNo hf rfl rfl rfl (congrArg (fun b => some (Value.bool b)) hb18) rfl rfl rfl ?_; clear hf; intro a hf
        refine sNo hf rfl rfl rfl (congrArg (fun b => some (Value.bool b)) hb18) rfl rfl rfl ?_; clear hf; intro a hf
        refine sNo hf rfl rfl rfl (congrArg (fun b => some (Value.bool b)) hb18) rfl rfl rfl ?_; clear hf; intro a hf
        refine sY hf hs rfl rfl rfl (Y_pickT rfl (congrArg (fun b => some (Value.bool b)) hb18) rfl) ?_; clear hf; intro a hf
        refine sY hf hs rfl rfl rfl (Y_move rfl rfl) ?_; clear hf; intro a hf
        refine sNo hf rfl rfl rfl rfl rfl rfl rfl ?_; clear hf; intro a hf
        refine sNo hf rfl rfl rfl rfl rfl rfl rfl ?_; clear hf; intro a hf
        refine sNo hf rfl rfl rfl rfl rfl rfl rfl ?_; clear hf; intro a hf
        refine sY hf hs rfl rfl rfl (Y_pickT rfl rfl rfl) ?_; clear hf; intro a hf
        refine sY hf hs rfl rfl rfl (Y_move rfl rfl) ?_; clear hf; intro a hf
        refine sNo hf rfl rfl rfl rfl rfl rfl rfl ?_; clear hf; intro a hf
        refine sNo hf rfl rfl rfl rfl rfl rfl rfl ?_; clear hf; intro a hf
        refine sY hf hs rfl rfl rfl (Y_pickT rfl rfl rfl) ?_; clear hf; intro a hf
        refine sY hf hs rfl rfl rfl (Y_assign rfl rfl) ?_; clear hf; intro a hf
        refine wpO_nil ?_
        refine wpL_nil (then_normal ?_)
        exact ⟨true, Option.some.inj hj15, (Fr.pick (Fr.pick (Fr.pick hf.none hf rfl) hf rfl) hf rfl), hs⟩
      · have hj15 := bif_f hj15 hb18
        refine sYg hf hs rfl rfl rfl (congrArg (fun b => some (Value.bool b)) hb18) rfl rfl rfl (Y_move rfl rfl) ?_; clear hf; intro a hf
        refine sYg hf hs rfl rfl rfl (congrArg (fun b => some (Value.bool b)) hb18) rfl rfl rfl (Y_lenH rfl rfl el23 rfl) ?_; clear hf; intro a hf
        refine sYg hf hs rfl rfl rfl (congrArg (fun b => some (Value.bool b)) hb18) rfl rfl rfl (Y_fieldAddr rfl rfl fo39_0) ?_; clear hf; intro a hf
        refine sYg hf hs rfl rfl rfl (congrArg (fun b => some (Value.bool b)) hb18) rfl rfl rfl (Y_load_blk rfl rfl (i := 0) rfl rfl ag2) ?_; clear hf; intro a hf
        refine sYg hf hs rfl rfl rfl (congrArg (fun b => some (Value.bool b)) hb18) rfl rfl rfl (Y_neq rfl rfl rfl) ?_; clear hf; intro a hf
        refine sY hf hs rfl rfl rfl (Y_pickF rfl (congrArg (fun b => some (Value.bool b)) hb18) rfl) ?_; clear hf; intro a hf
        refine sY hf hs rfl rfl rfl (Y_move rfl rfl) ?_; clear hf; intro a hf
        refine bsplit ((p2_delays.length : Int) != p0_g.Events) (fun hb19 => ?_) (fun hb19 => ?_)
        · have hj15 := bif_t hj15 hb19
          refine sNo hf rfl rfl rfl (congrArg (fun b => some (Value.bool b)) hb19) rfl rfl rfl ?_; clear hf; intro a hf
          refine sNo hf rfl rfl rfl (congrArg (fun b => some (Value.bool b)) hb19) rfl rfl rfl ?_; clear hf; intro a hf
          refine sNo hf rfl rfl rfl (congrArg (fun b => some (Value.bool b)) hb19) rfl rfl rfl ?_; clear hf; intro a hf
          refine sY hf hs rfl rfl rfl (Y_pickT rfl (congrArg (fun b => some (Value.bool b)) hb19) rfl) ?_; clear hf; intro a hf
          refine sY hf hs rfl rfl rfl (Y_move rfl rfl) ?_; clear hf; intro a hf
          refine sNo hf rfl rfl rfl rfl rfl rfl rfl ?_; clear hf; intro a hf
          refine sNo hf rfl rfl rfl rfl rfl rfl rfl ?_; clear hf; intro a hf
          refine sY hf hs rfl rfl rfl (Y_pickT rfl rfl rfl) ?_; clear hf; intro a hf
          refine sY hf hs rfl rfl rfl (Y_assign rfl rfl) ?_; clear hf; intro a hf
          refine wpO_nil ?_
          refine wpL_nil (then_normal ?_)
          exact ⟨true, Option.some.inj hj15, (Fr.pick (Fr.pick (Fr.pick hf.none hf rfl) hf rfl) hf rfl), hs⟩
        · have hj15 := bif_f hj15 hb19
          refine sYg hf hs rfl rfl rfl (congrArg (fun b => some (Value.bool b)) hb19) rfl rfl rfl (Y_move rfl rfl) ?_; clear hf; intro a hf
          obtain ⟨r20, hc21, hj15⟩ := bind_some hj15
          refine sCallg hf rfl rfl rfl (congrArg (fun b => some (Value.bool b)) hb19) rfl rfl rfl rfl (cap := []) rfl rfl en80 (impl_allWithin_ok F p2_delays A_p2_delays_1 p2_delays.length c_p2_delays_1 rfl 0 1000000 _ _ hc21 (h_p2_delays_1.at hs)) ?_; clear hf
          rintro _ w ⟨rfl, hs1⟩ a hf
          have hs : St [] W w [.blk b1 39 [.int .i64 p0_g.Events, .slice A_p0_g_1 p0_g.Places.length c_p0_g_1], .blk b2 67 [.int .i64 p1_t.Period, .slice A_p1_t_1 p1_t.Starts.length c_p1_t_1]] := hs.ext hs1.below
          clear hs1
          refine sYg hf hs rfl rfl rfl (congrArg (fun b => some (Value.bool b)) hb19) rfl rfl rfl (Y_not rfl rfl) ?_; clear hf; intro a hf
          refine sY hf hs rfl rfl rfl (Y_pickF rfl (congrArg (fun b => some (Value.bool b)) hb19) rfl) ?_; clear hf; intro a hf
          refine sY hf hs rfl rfl rfl (Y_move rfl rfl) ?_; clear hf; intro a hf
          refine bsplit (!r20) (fun hb22 => ?_) (fun hb22 => ?_)
          · have hj15 := bif_t hj15 hb22
            refine sNo hf rfl rfl rfl (congrArg (fun b => some (Value.bool b)) hb22) rfl rfl rfl ?_; clear hf; intro a hf
            refine sNo hf rfl rfl rfl (congrArg (fun b => some (Value.bool b)) hb22) rfl rfl rfl ?_; clear hf; intro a hf
            refine sY hf hs rfl rfl rfl (Y_pickT rfl (congrArg (fun b => some (Value.bool b)) hb22) rfl) ?_; clear hf; intro a hf
            refine sY hf hs rfl rfl rfl (Y_assign rfl rfl) ?_; clear hf; intro a hf
            refine wpO_nil ?_
            refine wpL_nil (then_normal ?_)
            exact ⟨true, Option.some.inj hj15, (Fr.pick (Fr.pick (Fr.pick hf.none hf rfl) hf rfl) hf rfl), hs⟩
          · have hj15 := bif_f hj15 hb22
            refine sYg hf hs rfl rfl rfl (congrArg (fun b => some (Value.bool b)) hb22) rfl rfl rfl (Y_move rfl rfl) ?_; clear hf; intro a hf
            refine sYg hf hs rfl rfl rfl (congrArg (fun b => some (Value.bool b)) hb22) rfl rfl rfl (Y_not rfl rfl) ?_; clear hf; intro a hf
            refine sY hf hs rfl rfl rfl (Y_pickF rfl (congrArg (fun b => some (Value.bool b)) hb22) rfl) ?_; clear hf; intro a hf
            refine sY hf hs rfl rfl rfl (Y_assign rfl rfl) ?_; clear hf; intro a hf
            refine wpO_nil ?_
            refine wpL_nil (then_normal ?_)
            exact ⟨(!p3_ok), Option.some.inj hj15, (Fr.pick (Fr.pick (Fr.pick hf.none hf rfl) hf rfl) hf rfl), hs⟩
    · rintro a w ⟨b13, hr_, hf, hs⟩
      subst hr_
      try dsimp only at hm
      refine wpL_cond hf rfl (fun hb23 => ?_) (fun hb23 => ?_)
      · have hm := bif_t hm hb23
        refine wpL_seq ?_
        refine wpL_region ?_
        refine sY hf hs rfl rfl rfl (Y_assign rfl rfl) ?_; clear hf; intro a hf
        refine wpO_nil ?_
        obtain rfl := Option.some.inj hm
        refine wpL_ret (Qb_ret (ret_tmp rfl hf rfl ?_))
        exact ⟨_, rfl, rfl, hs.sel [] (by decide)⟩
      · have hm := bif_f hm hb23
        refine wpL_seq ?_
        obtain ⟨r30, hj31, hm⟩ := bind_some hm
        refine wpL_cut (fun a w => ∃ b29 : Bool, b29 = r30 ∧ Fr a 44 [(34, .bool b29)] ∧ St [] W w []) ?_ ?_
        · refine wpL_region ?_
          refine sY hf hs rfl rfl rfl (Y_load_blkS rfl rfl (i := 0) rfl ag39 ti39 rfl) ?_; clear hf; intro a hf
          obtain ⟨r32, hc33, hj31⟩ := bind_some hj31
          refine sCall hf rfl rfl rfl rfl (cap := []) rfl rfl en167 (impl_isLive_ok F p0_g A_p0_g_1 p0_g.Places.length c_p0_g_1 rfl _ _ hc33 (h_p0_g_1.at hs)) ?_; clear hf
          rintro _ w ⟨rfl, hs1⟩ a hf
          have hs : St [] W w [.blk b1 39 [.int .i64 p0_g.Events, .slice A_p0_g_1 p0_g.Places.length c_p0_g_1], .blk b2 67 [.int .i64 p1_t.Period, .slice A_p1_t_1 p1_t.Starts.length c_p1_t_1]] := hs.ext hs1.below
          clear hs1
          refine sY hf hs rfl rfl rfl (Y_not rfl rfl) ?_; clear hf; intro a hf
          refine sY hf hs rfl rfl rfl (Y_move rfl rfl) ?_; clear hf; intro a hf
          refine bsplit (!r32) (fun hb34 => ?_) (fun hb34 => ?_)
          · have hj31 := bif_t hj31 hb34
            refine sNo hf rfl rfl rfl (congrArg (fun b => some (Value.bool b)) hb34) rfl rfl rfl ?_; clear hf; intro a hf
            refine sNo hf rfl rfl rfl (congrArg (fun b => some (Value.bool b)) hb34) rfl rfl rfl ?_; clear hf; intro a hf
            refine sNo hf rfl rfl rfl (congrArg (fun b => some (Value.bool b)) hb34) rfl rfl rfl ?_; clear hf; intro a hf
            refine sNo hf rfl rfl rfl (congrArg (fun b => some (Value.bool b)) hb34) rfl rfl rfl ?_; clear hf; intro a hf
            refine sY hf hs rfl rfl rfl (Y_pickT rfl (congrArg (fun b => some (Value.bool b)) hb34) rfl) ?_; clear hf; intro a hf
            refine sY hf hs rfl rfl rfl (Y_assign rfl rfl) ?_; clear hf; intro a hf
            refine wpO_nil ?_
            refine wpL_nil (then_normal ?_)
            exact ⟨true, Option.some.inj hj31, (Fr.pick hf.none hf rfl), hs.sel [] (by decide)⟩
          · have hj31 := bif_f hj31 hb34
            refine sYg hf hs rfl rfl rfl (congrArg (fun b => some (Value.bool b)) hb34) rfl rfl rfl (Y_load_blkS rfl rfl (i := 0) rfl ag39 ti39 rfl) ?_; clear hf; intro a hf
            refine sYg hf hs rfl rfl rfl (congrArg (fun b => some (Value.bool b)) hb34) rfl rfl rfl (Y_load_blkS rfl rfl (i := 1) rfl ag67 ti67 rfl) ?_; clear hf; intro a hf
            obtain ⟨r35, hc36, hj31⟩ := bind_some hj31
            refine sCallg hf rfl rfl rfl (congrArg (fun b => some (Value.bool b)) hb34) rfl rfl rfl rfl (cap := []) rfl rfl en168 (impl_isKept_ok F p0_g A_p0_g_1 p0_g.Places.length c_p0_g_1 rfl p1_t A_p1_t_1 p1_t.Starts.length c_p1_t_1 rfl _ _ hc36 (h_p0_g_1.at hs) (h_p1_t_1.at hs)) ?_; clear hf
            rintro _ w ⟨rfl, hs1⟩ a hf
            have hs : St [] W w [.blk b1 39 [.int .i64 p0_g.Events, .slice A_p0_g_1 p0_g.Places.length c_p0_g_1], .blk b2 67 [.int .i64 p1_t.Period, .slice A_p1_t_1 p1_t.Starts.length c_p1_t_1]] := hs.ext hs1.below
            clear hs1
            refine sYg hf hs rfl rfl rfl (congrArg (fun b => some (Value.bool b)) hb34) rfl rfl rfl (Y_not rfl rfl) ?_; clear hf; intro a hf
            refine sY hf hs rfl rfl rfl (Y_pickF rfl (congrArg (fun b => some (Value.bool b)) hb34) rfl) ?_; clear hf; intro a hf
            refine sY hf hs rfl rfl rfl (Y_assign rfl rfl) ?_; clear hf; intro a hf
            refine wpO_nil ?_
            refine wpL_nil (then_normal ?_)
            exact ⟨(!r35), Option.some.inj hj31, (Fr.pick hf.none hf rfl), hs.sel [] (by decide)⟩
        · rintro a w ⟨b29, hr_, hf, hs⟩
          subst hr_
          try dsimp only at hm
          refine wpL_cond hf rfl (fun hb37 => ?_) (fun hb37 => ?_)
          · have hm := bif_t hm hb37
            refine wpL_seq ?_
            refine wpL_region ?_
            refine sY hf hs rfl rfl rfl (Y_assign rfl rfl) ?_; clear hf; intro a hf
            refine wpO_nil ?_
            obtain rfl := Option.some.inj hm
            refine wpL_ret (Qb_ret (ret_tmp rfl hf rfl ?_))
            exact ⟨_, rfl, rfl, hs⟩
          · have hm := bif_f hm hb37
            refine wpL_skip ?_
            refine wpL_nil (Qb_normal ?_)
            refine wpL_seq ?_
            refine wpL_region ?_
            refine sY hf hs rfl rfl rfl (Y_assign rfl rfl) ?_; clear hf; intro a hf
            refine wpO_nil ?_
            obtain rfl := Option.some.inj hm
            refine wpL_ret (ret_tmp rfl hf rfl ?_)
            exact ⟨_, rfl, rfl, hs⟩

set_option maxRecDepth 100000 in
theorem impl_delayTable_ok (F : Nat) (p0 : GEventGraph) (A_p0_1 : Option Addr) (n_p0_1 c_p0_1 : Nat) (hn_p0_1 : n_p0_1 = p0.Places.length) (p1 : GTimetable) (A_p1_1 : Option Addr) (n_p1_1 c_p1_1 : Nat) (hn_p1_1 : n_p1_1 = p1.Starts.length) (p2 : List Int) (A_p2_1 : Option Addr) (n_p2_1 c_p2_1 : Nat) (hn_p2_1 : n_p2_1 = p2.length) (p3 : Int) (r : List (List Int)) (W : World) (hm : impl_delayTable F p0 p1 p2 p3 = some r) (h_p0_1 : Rd W A_p0_1 ((recs GPlace.cells) p0.Places)) (h_p1_1 : Rd W A_p1_1 (ints p1.Starts)) (h_p2_1 : Rd W A_p2_1 (ints p2)) :
    Calls Try.prog 169 [.agg #[.int .i64 p0.Events, .slice A_p0_1 n_p0_1 c_p0_1], .agg #[.int .i64 p1.Period, .slice A_p1_1 n_p1_1 c_p1_1], .slice A_p2_1 n_p2_1 c_p2_1, .int .i64 p3].toArray W fun e w' => ∃ v, e = .returned v ∧ ∃ A3661, ∃ n3662, ∃ c3663, ∃ vs3665, v = .slice A3661 n3662 c3663 ∧ n3662 = r.length ∧ St [] W w' [.mat A3661 n3662 c3663 23 2 vs3665 r] := by
  subst hn_p0_1
  subst hn_p1_1
  subst hn_p2_1
  unfold impl_delayTable at hm
  refine Calls.enter (N := 95) Try.func169 rfl rfl rfl (fun a hf => ?_)
  have hs := St.start W
  obtain ⟨w, hw_⟩ : ∃ w, w = W := ⟨W, rfl⟩
  clear hw_ w
  refine wpL_seq ?_
  refine wpL_region ?_
  refine sBox hf hs rfl rfl rfl rfl rfl (cs := [.int .i64 p0.Events, .slice A_p0_1 p0.Places.length c_p0_1]) rfl ?_; clear hf hs; intro a w b1 hs hf
  have hs : St [] W w [.blk b1 39 [.int .i64 p0.Events, .slice A_p0_1 p0.Places.length c_p0_1]] := hs
  refine sBox hf hs rfl rfl rfl rfl rfl (cs := [.int .i64 p1.Period, .slice A_p1_1 p1.Starts.length c_p1_1]) rfl ?_; clear hf hs; intro a w b2 hs hf
  have hs : St [] W w [.blk b1 39 [.int .i64 p0.Events, .slice A_p0_1 p0.Places.length c_p0_1], .blk b2 67 [.int .i64 p1.Period, .slice A_p1_1 p1.Starts.length c_p1_1]] := hs
  refine sY hf hs rfl rfl rfl (Y_assign rfl rfl) ?_; clear hf; intro a hf
  refine wpO_nil ?_
  refine wpL_seq ?_
  refine wpL_region ?_
  refine sY hf hs rfl rfl rfl (Y_load_blkS rfl rfl (i := 0) rfl ag39 ti39 rfl) ?_; clear hf; intro a hf
  obtain ⟨r3, hc4, hm⟩ := bind_some hm
  refine sCall hf rfl rfl rfl rfl (cap := []) rfl rfl en173 (impl_firingOrder_ok F p0 A_p0_1 p0.Places.length c_p0_1 rfl _ _ hc4 (h_p0_1.at hs)) ?_; clear hf
  rintro _ w ⟨A5, n6, c7, rfl, hn8, hs1⟩ a hf
  have hs : St [] W w [.blk b1 39 [.int .i64 p0.Events, .slice A_p0_1 p0.Places.length c_p0_1], .blk b2 67 [.int .i64 p1.Period, .slice A_p1_1 p1.Starts.length c_p1_1], .row A5 n6 c7 2 1 (ints r3.1)] := hs.join hs1
  clear hs1
  refine sY hf hs rfl rfl rfl (Y_move rfl rfl) ?_; clear hf; intro a hf
  refine sY hf hs rfl rfl rfl (Y_extract rfl rfl rfl) ?_; clear hf; intro a hf
  refine sY hf hs rfl rfl rfl (Y_extract rfl rfl rfl) ?_; clear hf; intro a hf
  refine sY hf hs rfl rfl rfl (Y_assign rfl rfl) ?_; clear hf; intro a hf
  refine sY hf hs rfl rfl rfl (Y_assign rfl rfl) ?_; clear hf; intro a hf
  refine wpO_nil ?_
  refine wpL_seq ?_
  refine wpL_region ?_
  refine sY hf hs rfl rfl rfl (Y_assign rfl rfl) ?_; clear hf; intro a hf
  refine wpO_nil ?_
  refine wpL_seq ?_
  refine wpL_seq ?_
  refine wpL_region ?_
  refine sY hf hs rfl rfl rfl (Y_move rfl rfl) ?_; clear hf; intro a hf
  refine sY hf hs rfl rfl rfl (Y_move rfl rfl) ?_; clear hf; intro a hf
  refine wpO_nil ?_
  obtain ⟨r2750, hl2751, hm⟩ := bind_some hm
  have hs : St [] W _ [.blk b1 39 [.int .i64 p0.Events, .slice A_p0_1 p0.Places.length c_p0_1], .blk b2 67 [.int .i64 p1.Period, .slice A_p1_1 p1.Starts.length c_p1_1], .row A5 n6 c7 2 1 (ints r3.1), .mat none 0 0 23 2 [] ([] : List (List Int))] := hs.addNilM 23 2
  refine wpL_block (fun a w => ∃ ms2744 : List (List Int), ∃ A2745, ∃ n2746, ∃ c2747, ∃ vs2749, ms2744 = r2750 ∧ n2746 = ms2744.length ∧ Fr a 95 [(11, .slice A2745 n2746 c2747)] ∧ St [] W w [.mat A2745 n2746 c2747 23 2 vs2749 ms2744]) ?_ ?_
  · refine wpL_loop (fun n a w => ∃ ms1831 : List (List Int), ∃ x1837 : Int, ∃ A1832, ∃ n1833, ∃ c1834, ∃ vs1836, impl_delayTable_L16 F p0 p1 p2 p3 r3 n ms1831 x1837 = some r2750 ∧ n1833 = ms1831.length ∧ Fr a 95 [(2, .slice A_p2_1 p2.length c_p2_1), (4, .pointer (some ⟨b1, 0, none⟩)), (5, .pointer (some ⟨b2, 0, none⟩)), (9, .slice A5 n6 c7), (11, .slice A1832 n1833 c1834), (24, .int .i64 p3), (25, .int .i64 x1837)] ∧ St [] W w [.blk b1 39 [.int .i64 p0.Events, .slice A_p0_1 p0.Places.length c_p0_1], .blk b2 67 [.int .i64 p1.Period, .slice A_p1_1 p1.Starts.length c_p1_1], .row A5 n6 c7 2 1 (ints r3.1), .mat A1832 n1833 c1834 23 2 vs1836 ms1831]) F ?_ ?_ ?_
    · exact ⟨([] : List (List Int)), 0, none, 0, 0, [], hl2751, rfl, (Fr.pick (Fr.pick (Fr.pick (Fr.pick (Fr.pick (Fr.pick (Fr.pick hf.none hf rfl) hf rfl) hf rfl) hf rfl) hf rfl) hf rfl) hf rfl), hs⟩
    · rintro a w ⟨ms1831, x1837, A1832, n1833, c1834, vs1836, h0_, -, -, -⟩; simp [impl_delayTable_L16] at h0_
    · rintro n2753 a w ⟨ms1831, x1837, A1832, n1833, c1834, vs1836, hm2752, hn1835, hf, hs⟩
      rw [impl_delayTable_L16] at hm2752
      refine wpL_seq ?_
      refine wpL_region ?_
      refine sY hf hs rfl rfl rfl (Y_lss rfl rfl rfl) ?_; clear hf; intro a hf
      refine wpO_nil ?_
      refine wpL_seq ?_
      refine wpL_cond hf rfl (fun hb2754 => ?_) (fun hb2754 => ?_)
      · have hm2752 := bif_t hm2752 hb2754
        refine wpL_skip ?_
        refine wpL_seq ?_
        refine wpL_block0 ?_
        refine wpL_seq ?_
        refine wpL_region ?_
        refine sY hf hs rfl rfl rfl (Y_move rfl rfl) ?_; clear hf; intro a hf
        refine sY hf hs rfl rfl rfl (Y_assign rfl rfl) ?_; clear hf; intro a hf
        refine wpO_nil ?_
        refine wpL_seq ?_
        refine wpL_region ?_
        refine sY hf hs rfl rfl rfl (Y_fieldAddr rfl rfl fo39_0) ?_; clear hf; intro a hf
        refine sY hf hs rfl rfl rfl (Y_load_blk rfl rfl (i := 0) rfl rfl ag2) ?_; clear hf; intro a hf
        obtain ⟨xs2757, hk2756, hm2752⟩ := bind_some hm2752
        refine sMakeL (enc := ints) hf hs rfl rfl rfl rfl rfl hk2756 el23 ti2 rfl ints_made ?_; clear hf hs; intro a w A2755 hs hf
        have hs : St [] W w [.blk b1 39 [.int .i64 p0.Events, .slice A_p0_1 p0.Places.length c_p0_1], .blk b2 67 [.int .i64 p1.Period, .slice A_p1_1 p1.Starts.length c_p1_1], .row A5 n6 c7 2 1 (ints r3.1), .mat A1832 n1833 c1834 23 2 vs1836 ms1831, .row A2755 xs2757.length xs2757.length 2 1 (ints xs2757)] := hs
        refine sY hf hs rfl rfl rfl (Y_assign rfl rfl) ?_; clear hf; intro a hf
        refine wpO_nil ?_
        refine wpL_seq ?_
        refine wpL_seq ?_
        refine wpL_region ?_
        refine sY hf hs rfl rfl rfl (Y_move rfl rfl) ?_; clear hf; intro a hf
        refine sY hf hs rfl rfl rfl (Y_eql rfl rfl rfl) ?_; clear hf; intro a hf
        refine wpO_nil ?_
        obtain ⟨r2761, hj2762, hm2752⟩ := bind_some hm2752
        refine wpL_cut (fun a w => ∃ xs2759 : List Int, xs2759 = r2761 ∧ xs2757.length = xs2759.length ∧ Fr a 95 [(2, .slice A_p2_1 p2.length c_p2_1), (4, .pointer (some ⟨b1, 0, none⟩)), (5, .pointer (some ⟨b2, 0, none⟩)), (9, .slice A5 n6 c7), (11, .slice A1832 n1833 c1834), (12, .int .i64 x1837), (13, .slice A2755 xs2757.length xs2757.length), (24, .int .i64 p3), (25, .int .i64 x1837)] ∧ St [] W w [.blk b1 39 [.int .i64 p0.Events, .slice A_p0_1 p0.Places.length c_p0_1], .blk b2 67 [.int .i64 p1.Period, .slice A_p1_1 p1.Starts.length c_p1_1], .row A5 n6 c7 2 1 (ints r3.1), .mat A1832 n1833 c1834 23 2 vs1836 ms1831, .row A2755 xs2757.length xs2757.length 2 1 (ints xs2759)]) ?_ ?_
        · refine wpL_cond hf rfl (fun hb2763 => ?_) (fun hb2763 => ?_)
          · have hj2762 := bif_t hj2762 hb2763
            refine wpL_region ?_
            refine sY hf hs rfl rfl rfl (Y_move rfl rfl) ?_; clear hf; intro a hf
            refine sY hf hs rfl rfl rfl (Y_move rfl rfl) ?_; clear hf; intro a hf
            refine sCopy (i := 4) (xs := xs2757) (ys := p2) hf hs rfl rfl rfl rfl rfl rfl rfl rfl rfl el23 ti2 (h_p2_1.at hs) ?_; clear hf hs; intro a w hs hf
            have hs : St [] W w [.blk b1 39 [.int .i64 p0.Events, .slice A_p0_1 p0.Places.length c_p0_1], .blk b2 67 [.int .i64 p1.Period, .slice A_p1_1 p1.Starts.length c_p1_1], .row A5 n6 c7 2 1 (ints r3.1), .mat A1832 n1833 c1834 23 2 vs1836 ms1831, .row A2755 xs2757.length xs2757.length 2 1 (ints (cpy xs2757 p2))] := hs
            refine wpO_nil ?_
            refine wpL_nil (then_normal ?_)
            exact ⟨(cpy xs2757 p2), Option.some.inj hj2762, (cpy_len xs2757 p2).symm, (Fr.pick (Fr.pick (Fr.pick (Fr.pick (Fr.pick (Fr.pick (Fr.pick (Fr.pick (Fr.pick hf.none hf rfl) hf rfl) hf rfl) hf rfl) hf rfl) hf rfl) hf rfl) hf rfl) hf rfl), hs⟩
          · have hj2762 := bif_f hj2762 hb2763
            refine wpL_skip ?_
            refine wpL_nil (then_normal ?_)
            exact ⟨xs2757, Option.some.inj hj2762, rfl, (Fr.pick (Fr.pick (Fr.pick (Fr.pick (Fr.pick (Fr.pick (Fr.pick (Fr.pick (Fr.pick hf.none hf rfl) hf rfl) hf rfl) hf rfl) hf rfl) hf rfl) hf rfl) hf rfl) hf rfl), hs⟩
        · rintro a w ⟨xs2759, hr_, hn2760, hf, hs⟩
          subst hr_
          try dsimp only at hm2752
          refine wpL_seq ?_
          refine wpL_region ?_
          refine sY hf hs rfl rfl rfl (Y_move rfl rfl) ?_; clear hf; intro a hf
          refine sY hf hs rfl rfl rfl (Y_move rfl rfl) ?_; clear hf; intro a hf
          refine sOneM (j := 4) hf hs rfl rfl rfl rfl rfl rfl hn2760 el46 ti23 ?_; clear hf hs; intro a w A2764 hs hf
          have hs : St [] W w [.blk b1 39 [.int .i64 p0.Events, .slice A_p0_1 p0.Places.length c_p0_1], .blk b2 67 [.int .i64 p1.Period, .slice A_p1_1 p1.Starts.length c_p1_1], .row A5 n6 c7 2 1 (ints r3.1), .mat A1832 n1833 c1834 23 2 vs1836 ms1831, .mat A2764 1 1 23 2 ([.slice A2755 xs2759.length xs2757.length]) ([xs2759])] := hs
          obtain ⟨ms2768, ha2769, hm2752⟩ := bind_some hm2752
          refine sAppendM (i := 3) (j := 4) hf hs rfl rfl rfl rfl rfl rfl hn1835 rfl (by decide) rfl rfl (by decide) ha2769 el46 ti23 rfl ?_; clear hf hs; intro a w A2766 c2767 hs hf
          have hs : St [] W w [.blk b1 39 [.int .i64 p0.Events, .slice A_p0_1 p0.Places.length c_p0_1], .blk b2 67 [.int .i64 p1.Period, .slice A_p1_1 p1.Starts.length c_p1_1], .row A5 n6 c7 2 1 (ints r3.1), .mat A2766 ms2768.length c2767 23 2 (vs1836 ++ ([.slice A2755 xs2759.length xs2757.length])) ms2768] := hs
          obtain ⟨hq2770, hv2771⟩ := hs.appended (i := 3) rfl ha2769
          refine sY hf hs rfl rfl rfl (Y_assign rfl rfl) ?_; clear hf; intro a hf
          refine wpO_nil ?_
          refine wpL_seq ?_
          refine wpL_region ?_
          refine sY hf hs rfl rfl rfl (Y_move rfl rfl) ?_; clear hf; intro a hf
          refine sY hf hs rfl rfl rfl (Y_lenH rfl rfl el23 hn8) ?_; clear hf; intro a hf
          refine sY hf hs rfl rfl rfl (Y_move rfl rfl) ?_; clear hf; intro a hf
          refine wpO_nil ?_
          obtain ⟨r3439, hl3440, hm2752⟩ := bind_some hm2752
          refine wpL_block (fun a w => ∃ ms3437 : List (List Int), ms3437 = r3439 ∧ ms2768.length = ms3437.length ∧ Fr a 95 [(2, .slice A_p2_1 p2.length c_p2_1), (4, .pointer (some ⟨b1, 0, none⟩)), (5, .pointer (some ⟨b2, 0, none⟩)), (9, .slice A5 n6 c7), (11, .slice A2766 ms2768.length c2767), (24, .int .i64 p3), (25, .int .i64 x1837)] ∧ St [] W w [.blk b1 39 [.int .i64 p0.Events, .slice A_p0_1 p0.Places.length c_p0_1], .blk b2 67 [.int .i64 p1.Period, .slice A_p1_1 p1.Starts.length c_p1_1], .row A5 n6 c7 2 1 (ints r3.1), .mat A2766 ms2768.length c2767 23 2 (vs1836 ++ ([.slice A2755 xs2759.length xs2757.length])) ms3437]) ?_ ?_
          · refine wpL_loop (fun n a w => ∃ ms3213 : List (List Int), ∃ x3215 : Int, ∃ xs3216 : List Int, impl_delayTable_L20 F p0 p1 r3 ms1831 x1837 n ms3213 x3215 xs3216 = some r3439 ∧ ms2768.length = ms3213.length ∧ xs2757.length = xs3216.length ∧ ms3213[(ms1831.length : Int).toNat]? = some xs3216 ∧ (vs1836 ++ ([.slice A2755 xs2759.length xs2757.length]))[(ms1831.length : Int).toNat]? = some (Value.slice A2755 xs3216.length xs2757.length) ∧ Fr a 95 [(2, .slice A_p2_1 p2.length c_p2_1), (4, .pointer (some ⟨b1, 0, none⟩)), (5, .pointer (some ⟨b2, 0, none⟩)), (9, .slice A5 n6 c7), (11, .slice A2766 ms2768.length c2767), (12, .int .i64 x1837), (13, .slice A2755 xs2757.length xs2757.length), (24, .int .i64 p3), (25, .int .i64 x1837), (40, .slice A5 n6 c7), (41, .int .i64 (r3.1.length : Int)), (42, .int .i64 x3215)] ∧ St [] W w [.blk b1 39 [.int .i64 p0.Events, .slice A_p0_1 p0.Places.length c_p0_1], .blk b2 67 [.int .i64 p1.Period, .slice A_p1_1 p1.Starts.length c_p1_1], .row A5 n6 c7 2 1 (ints r3.1), .mat A2766 ms2768.length c2767 23 2 (vs1836 ++ ([.slice A2755 xs2759.length xs2757.length])) ms3213]) F ?_ ?_ ?_
            · exact ⟨ms2768, 0, xs2759, hl3440, rfl, hn2760, hq2770, hv2771, (Fr.pick (Fr.pick (Fr.pick (Fr.pick (Fr.pick (Fr.pick (Fr.pick (Fr.pick (Fr.pick (Fr.pick (Fr.pick (Fr.pick hf.none hf rfl) hf rfl) hf rfl) hf rfl) hf rfl) hf rfl) hf rfl) hf rfl) hf rfl) hf rfl) hf rfl) hf rfl), hs⟩
            · rintro a w ⟨ms3213, x3215, xs3216, h0_, -, -, -, -, -, -⟩; simp [impl_delayTable_L20] at h0_
            · rintro n3442 a w ⟨ms3213, x3215, xs3216, hm3441, hn3214, hn3217, hq3218, hv3219, hf, hs⟩
              rw [impl_delayTable_L20] at hm3441
              refine wpL_seq ?_
              refine wpL_region ?_
              refine sY hf hs rfl rfl rfl (Y_lss rfl rfl rfl) ?_; clear hf; intro a hf
              refine wpO_nil ?_
              refine wpL_seq ?_
              refine wpL_cond hf rfl (fun hb3443 => ?_) (fun hb3443 => ?_)
              · have hm3441 := bif_t hm3441 hb3443
                refine wpL_skip ?_
                refine wpL_seq ?_
                refine wpL_block0 ?_
                refine wpL_seq ?_
                refine wpL_region ?_
                obtain ⟨q3444, hi3445, hm3441⟩ := bind_some hm3441
                obtain ⟨hi3445a, hi3445b, hi3445q⟩ := idx_some hi3445
                refine sY hf hs rfl rfl rfl (Y_index rfl rfl rfl el23 ti2 (Rd.isAt (hs.rd (i := 2) rfl) (at1 (ints_at hi3445q))) hi3445a (ltn hn8 hi3445b)) ?_; clear hf; intro a hf
                refine sY hf hs rfl rfl rfl (Y_load_rd rfl rfl (fun w hs => hs.rd (i := 2) rfl) (at1 (ints_at hi3445q)) ag2) ?_; clear hf; intro a hf
                refine sY hf hs rfl rfl rfl (Y_assign rfl rfl) ?_; clear hf; intro a hf
                refine wpO_nil ?_
                refine wpL_seq ?_
                refine wpL_region ?_
                refine sY hf hs rfl rfl rfl (Y_load_blkS rfl rfl (i := 0) rfl ag39 ti39 rfl) ?_; clear hf; intro a hf
                refine sY hf hs rfl rfl rfl (Y_load_blkS rfl rfl (i := 1) rfl ag67 ti67 rfl) ?_; clear hf; intro a hf
                obtain ⟨r3446, hc3447, hm3441⟩ := bind_some hm3441
                refine sCall hf rfl rfl rfl rfl (cap := []) rfl rfl en189 (impl_slacksOf_ok F p0 A_p0_1 p0.Places.length c_p0_1 rfl p1 A_p1_1 p1.Starts.length c_p1_1 rfl _ _ hc3447 (h_p0_1.at hs) (h_p1_1.at hs)) ?_; clear hf
                rintro _ w ⟨A3448, n3449, c3450, rfl, hn3451, hs1⟩ a hf
                have hs : St [] W w [.blk b1 39 [.int .i64 p0.Events, .slice A_p0_1 p0.Places.length c_p0_1], .blk b2 67 [.int .i64 p1.Period, .slice A_p1_1 p1.Starts.length c_p1_1], .row A5 n6 c7 2 1 (ints r3.1), .mat A2766 ms2768.length c2767 23 2 (vs1836 ++ ([.slice A2755 xs2759.length xs2757.length])) ms3213, .row A3448 n3449 c3450 2 1 (ints r3446)] := hs.join hs1
                clear hs1
                refine sY hf hs rfl rfl rfl (Y_lenH rfl rfl el23 hn3451) ?_; clear hf; intro a hf
                refine sY hf hs rfl rfl rfl (Y_move rfl rfl) ?_; clear hf; intro a hf
                refine wpO_nil ?_
                obtain ⟨r3610, hl3611, hm3441⟩ := bind_some hm3441
                refine wpL_block (fun a w => ∃ ms3604 : List (List Int), ∃ xs3606 : List Int, (ms3604, xs3606) = r3610 ∧ ms2768.length = ms3604.length ∧ xs2757.length = xs3606.length ∧ ms3604[(ms1831.length : Int).toNat]? = some xs3606 ∧ (vs1836 ++ ([.slice A2755 xs2759.length xs2757.length]))[(ms1831.length : Int).toNat]? = some (Value.slice A2755 xs3606.length xs2757.length) ∧ Fr a 95 [(2, .slice A_p2_1 p2.length c_p2_1), (4, .pointer (some ⟨b1, 0, none⟩)), (5, .pointer (some ⟨b2, 0, none⟩)), (9, .slice A5 n6 c7), (11, .slice A2766 ms2768.length c2767), (12, .int .i64 x1837), (13, .slice A2755 xs2757.length xs2757.length), (24, .int .i64 p3), (25, .int .i64 x1837), (40, .slice A5 n6 c7), (41, .int .i64 (r3.1.length : Int)), (42, .int .i64 x3215)] ∧ St [] W w [.blk b1 39 [.int .i64 p0.Events, .slice A_p0_1 p0.Places.length c_p0_1], .blk b2 67 [.int .i64 p1.Period, .slice A_p1_1 p1.Starts.length c_p1_1], .row A5 n6 c7 2 1 (ints r3.1), .mat A2766 ms2768.length c2767 23 2 (vs1836 ++ ([.slice A2755 xs2759.length xs2757.length])) ms3604]) ?_ ?_
                · refine wpL_loop (fun n a w => ∃ ms3551 : List (List Int), ∃ x3553 : Int, ∃ xs3554 : List Int, impl_delayTable_L21 F p0 ms1831 x1837 q3444 r3446 n ms3551 x3553 xs3554 = some r3610 ∧ ms2768.length = ms3551.length ∧ xs2757.length = xs3554.length ∧ ms3551[(ms1831.length : Int).toNat]? = some xs3554 ∧ (vs1836 ++ ([.slice A2755 xs2759.length xs2757.length]))[(ms1831.length : Int).toNat]? = some (Value.slice A2755 xs3554.length xs2757.length) ∧ Fr a 95 [(2, .slice A_p2_1 p2.length c_p2_1), (4, .pointer (some ⟨b1, 0, none⟩)), (5, .pointer (some ⟨b2, 0, none⟩)), (9, .slice A5 n6 c7), (11, .slice A2766 ms2768.length c2767), (12, .int .i64 x1837), (13, .slice A2755 xs2757.length xs2757.length), (15, .int .i64 q3444), (24, .int .i64 p3), (25, .int .i64 x1837), (40, .slice A5 n6 c7), (41, .int .i64 (r3.1.length : Int)), (42, .int .i64 x3215), (48, .slice A3448 n3449 c3450), (49, .int .i64 (r3446.length : Int)), (50, .int .i64 x3553)] ∧ St [] W w [.blk b1 39 [.int .i64 p0.Events, .slice A_p0_1 p0.Places.length c_p0_1], .blk b2 67 [.int .i64 p1.Period, .slice A_p1_1 p1.Starts.length c_p1_1], .row A5 n6 c7 2 1 (ints r3.1), .mat A2766 ms2768.length c2767 23 2 (vs1836 ++ ([.slice A2755 xs2759.length xs2757.length])) ms3551, .row A3448 n3449 c3450 2 1 (ints r3446)]) F ?_ ?_ ?_
                  · exact ⟨ms3213, 0, xs3216, hl3611, hn3214, hn3217, hq3218, hv3219, (Fr.pick (Fr.pick (Fr.pick (Fr.pick (Fr.pick (Fr.pick (Fr.pick (Fr.pick (Fr.pick (Fr.pick (Fr.pick (Fr.pick (Fr.pick (Fr.pick (Fr.pick (Fr.pick hf.none hf rfl) hf rfl) hf rfl) hf rfl) hf rfl) hf rfl) hf rfl) hf rfl) hf rfl) hf rfl) hf rfl) hf rfl) hf rfl) hf rfl) hf rfl) hf rfl), hs⟩
                  · rintro a w ⟨ms3551, x3553, xs3554, h0_, -, -, -, -, -, -⟩; simp [impl_delayTable_L21] at h0_
                  · rintro n3613 a w ⟨ms3551, x3553, xs3554, hm3612, hn3552, hn3555, hq3556, hv3557, hf, hs⟩
                    rw [impl_delayTable_L21] at hm3612
                    refine wpL_seq ?_
                    refine wpL_region ?_
                    refine sY hf hs rfl rfl rfl (Y_lss rfl rfl rfl) ?_; clear hf; intro a hf
                    refine wpO_nil ?_
                    refine wpL_seq ?_
                    refine wpL_cond hf rfl (fun hb3614 => ?_) (fun hb3614 => ?_)
                    · have hm3612 := bif_t hm3612 hb3614
                      refine wpL_skip ?_
                      refine wpL_seq ?_
                      refine wpL_block0 ?_
                      refine wpL_seq ?_
                      refine wpL_region ?_
                      refine sY hf hs rfl rfl rfl (Y_move rfl rfl) ?_; clear hf; intro a hf
                      obtain ⟨q3615, hi3616, hm3612⟩ := bind_some hm3612
                      obtain ⟨hi3616a, hi3616b, hi3616q⟩ := idx_some hi3616
                      refine sY hf hs rfl rfl rfl (Y_index rfl rfl rfl el23 ti2 (Rd.isAt (hs.rd (i := 4) rfl) (at1 (ints_at hi3616q))) hi3616a (ltn hn3451 hi3616b)) ?_; clear hf; intro a hf
                      refine sY hf hs rfl rfl rfl (Y_load_rd rfl rfl (fun w hs => hs.rd (i := 4) rfl) (at1 (ints_at hi3616q)) ag2) ?_; clear hf; intro a hf
                      refine sY hf hs rfl rfl rfl (Y_assign rfl rfl) ?_; clear hf; intro a hf
                      refine sY hf hs rfl rfl rfl (Y_assign rfl rfl) ?_; clear hf; intro a hf
                      refine wpO_nil ?_
                      refine wpL_seq ?_
                      refine wpL_region ?_
                      refine sY hf hs rfl rfl rfl (Y_fieldAddr rfl rfl fo39_1) ?_; clear hf; intro a hf
                      refine sY hf hs rfl rfl rfl (Y_load_blk rfl rfl (i := 0) rfl rfl ag37) ?_; clear hf; intro a hf
                      refine sY hf hs rfl rfl rfl (Y_move rfl rfl) ?_; clear hf; intro a hf
                      obtain ⟨q3617, hi3618, hm3612⟩ := bind_some hm3612
                      obtain ⟨hi3618a, hi3618b, hi3618q⟩ := idx_some hi3618
                      refine sY hf hs rfl rfl rfl (Y_index rfl rfl rfl el37 ti96 (Rd.isAt (h_p0_1.at hs) (recs_at (s := 4) GPlace.len hi3618q (j := 0) rfl)) hi3618a hi3618b) ?_; clear hf; intro a hf
                      refine sY hf hs rfl rfl rfl (Y_load_rdS rfl rfl (us := [.int .i64 q3617.From, .int .i64 q3617.To, .int .i64 q3617.Delay, .int .i64 q3617.Tokens]) (fun w hs => h_p0_1.at hs) (fun j u hj => recs_at (s := 4) GPlace.len hi3618q hj) (Nat.succ_pos _) ag96 ti96 rfl) ?_; clear hf; intro a hf
                      refine sAlloc hf hs rfl rfl rfl rfl ti96 ?_; clear hf hs; intro a w b3619 hs hf
                      have hs : St [] W w [.blk b1 39 [.int .i64 p0.Events, .slice A_p0_1 p0.Places.length c_p0_1], .blk b2 67 [.int .i64 p1.Period, .slice A_p1_1 p1.Starts.length c_p1_1], .row A5 n6 c7 2 1 (ints r3.1), .mat A2766 ms2768.length c2767 23 2 (vs1836 ++ ([.slice A2755 xs2759.length xs2757.length])) ms3551, .row A3448 n3449 c3450 2 1 (ints r3446), .blk b3619 96 [.int .i64 0, .int .i64 0, .int .i64 0, .int .i64 0]] := hs
                      refine sStore (i := 5) (us := [.int .i64 q3617.From, .int .i64 q3617.To, .int .i64 q3617.Delay, .int .i64 q3617.Tokens]) hf hs rfl rfl rfl rfl rfl rfl ti96 rfl rfl rfl (Nat.le_of_ble_eq_true rfl) rfl ?_; clear hs; intro w hs
                      have hs : St [] W w [.blk b1 39 [.int .i64 p0.Events, .slice A_p0_1 p0.Places.length c_p0_1], .blk b2 67 [.int .i64 p1.Period, .slice A_p1_1 p1.Starts.length c_p1_1], .row A5 n6 c7 2 1 (ints r3.1), .mat A2766 ms2768.length c2767 23 2 (vs1836 ++ ([.slice A2755 xs2759.length xs2757.length])) ms3551, .row A3448 n3449 c3450 2 1 (ints r3446), .blk b3619 96 [.int .i64 q3617.From, .int .i64 q3617.To, .int .i64 q3617.Delay, .int .i64 q3617.Tokens]] := hs
                      refine wpO_nil ?_
                      refine wpL_seq ?_
                      obtain ⟨r3622, hj3623, hm3612⟩ := bind_some hm3612
                      refine wpL_cut (fun a w => ∃ b3621 : Bool, b3621 = r3622 ∧ Fr a 95 [(2, .slice A_p2_1 p2.length c_p2_1), (4, .pointer (some ⟨b1, 0, none⟩)), (5, .pointer (some ⟨b2, 0, none⟩)), (9, .slice A5 n6 c7), (11, .slice A2766 ms2768.length c2767), (12, .int .i64 x1837), (13, .slice A2755 xs2757.length xs2757.length), (15, .int .i64 q3444), (17, .int .i64 q3615), (18, .pointer (some ⟨b3619, 0, none⟩)), (24, .int .i64 p3), (25, .int .i64 x1837), (40, .slice A5 n6 c7), (41, .int .i64 (r3.1.length : Int)), (42, .int .i64 x3215), (48, .slice A3448 n3449 c3450), (49, .int .i64 (r3446.length : Int)), (50, .int .i64 x3553), (69, .bool b3621)] ∧ St [] W w [.blk b1 39 [.int .i64 p0.Events, .slice A_p0_1 p0.Places.length c_p0_1], .blk b2 67 [.int .i64 p1.Period, .slice A_p1_1 p1.Starts.length c_p1_1], .row A5 n6 c7 2 1 (ints r3.1), .mat A2766 ms2768.length c2767 23 2 (vs1836 ++ ([.slice A2755 xs2759.length xs2757.length])) ms3551, .blk b3619 96 [.int .i64 q3617.From, .int .i64 q3617.To, .int .i64 q3617.Delay, .int .i64 q3617.Tokens], .row A3448 n3449 c3450 2 1 (ints r3446)]) ?_ ?_
                      · refine wpL_region ?_
                        refine sY hf hs rfl rfl rfl (Y_fieldAddr rfl rfl fo96_1) ?_; clear hf; intro a hf
                        refine sY hf hs rfl rfl rfl (Y_load_blk rfl rfl (i := 5) rfl rfl ag2) ?_; clear hf; intro a hf
                        refine sY hf hs rfl rfl rfl (Y_move rfl rfl) ?_; clear hf; intro a hf
                        refine sY hf hs rfl rfl rfl (Y_eql rfl rfl rfl) ?_; clear hf; intro a hf
                        refine sY hf hs rfl rfl rfl (Y_move rfl rfl) ?_; clear hf; intro a hf
                        refine bsplit (q3617.To == q3444) (fun hb3624 => ?_) (fun hb3624 => ?_)
                        · have hj3623 := bif_t hj3623 hb3624
                          refine sYg hf hs rfl rfl rfl (congrArg (fun b => some (Value.bool b)) hb3624) rfl rfl rfl (Y_move rfl rfl) ?_; clear hf; intro a hf
                          refine sYg hf hs rfl rfl rfl (congrArg (fun b => some (Value.bool b)) hb3624) rfl rfl rfl (Y_fieldAddr rfl rfl fo96_3) ?_; clear hf; intro a hf
                          refine sYg hf hs rfl rfl rfl (congrArg (fun b => some (Value.bool b)) hb3624) rfl rfl rfl (Y_load_blk rfl rfl (i := 5) rfl rfl ag2) ?_; clear hf; intro a hf
                          refine sYg hf hs rfl rfl rfl (congrArg (fun b => some (Value.bool b)) hb3624) rfl rfl rfl (Y_geq rfl rfl rfl) ?_; clear hf; intro a hf
                          refine sY hf hs rfl rfl rfl (Y_pickT rfl (congrArg (fun b => some (Value.bool b)) hb3624) rfl) ?_; clear hf; intro a hf
                          refine wpO_nil ?_
                          refine wpL_nil (then_normal ?_)
                          exact ⟨(decide (q3617.Tokens ≤ x1837)), Option.some.inj hj3623, (Fr.pick (Fr.pick (Fr.pick (Fr.pick (Fr.pick (Fr.pick (Fr.pick (Fr.pick (Fr.pick (Fr.pick (Fr.pick (Fr.pick (Fr.pick (Fr.pick (Fr.pick (Fr.pick (Fr.pick (Fr.pick (Fr.pick hf.none hf rfl) hf rfl) hf rfl) hf rfl) hf rfl) hf rfl) hf rfl) hf rfl) hf rfl) hf rfl) hf rfl) hf rfl) hf rfl) hf rfl) hf rfl) hf rfl) hf rfl) hf rfl) hf rfl), hs.sel [0, 1, 2, 3, 5, 4] (by decide)⟩
                        · have hj3623 := bif_f hj3623 hb3624
                          refine sNo hf rfl rfl rfl (congrArg (fun b => some (Value.bool b)) hb3624) rfl rfl rfl ?_; clear hf; intro a hf
                          refine sNo hf rfl rfl rfl (congrArg (fun b => some (Value.bool b)) hb3624) rfl rfl rfl ?_; clear hf; intro a hf
                          refine sNo hf rfl rfl rfl (congrArg (fun b => some (Value.bool b)) hb3624) rfl rfl rfl ?_; clear hf; intro a hf
                          refine sNo hf rfl rfl rfl (congrArg (fun b => some (Value.bool b)) hb3624) rfl rfl rfl ?_; clear hf; intro a hf
                          refine sY hf hs rfl rfl rfl (Y_pickF rfl (congrArg (fun b => some (Value.bool b)) hb3624) rfl) ?_; clear hf; intro a hf
                          refine wpO_nil ?_
                          refine wpL_nil (then_normal ?_)
                          exact ⟨false, Option.some.inj hj3623, (Fr.pick (Fr.pick (Fr.pick (Fr.pick (Fr.pick (Fr.pick (Fr.pick (Fr.pick (Fr.pick (Fr.pick (Fr.pick (Fr.pick (Fr.pick (Fr.pick (Fr.pick (Fr.pick (Fr.pick (Fr.pick (Fr.pick hf.none hf rfl) hf rfl) hf rfl) hf rfl) hf rfl) hf rfl) hf rfl) hf rfl) hf rfl) hf rfl) hf rfl) hf rfl) hf rfl) hf rfl) hf rfl) hf rfl) hf rfl) hf rfl) hf rfl), hs.sel [0, 1, 2, 3, 5, 4] (by decide)⟩
                      · rintro a w ⟨b3621, hr_, hf, hs⟩
                        subst hr_
                        try dsimp only at hm3612
                        refine wpL_cond hf rfl (fun hb3625 => ?_) (fun hb3625 => ?_)
                        · have hm3612 := bif_t hm3612 hb3625
                          refine wpL_drawG [.blk b1 39 [.int .i64 p0.Events, .slice A_p0_1 p0.Places.length c_p0_1], .blk b2 67 [.int .i64 p1.Period, .slice A_p1_1 p1.Starts.length c_p1_1], .row A5 n6 c7 2 1 (ints r3.1), .mat A2766 ms2768.length c2767 23 2 (vs1836 ++ ([.slice A2755 xs2759.length xs2757.length])) ms3551, .blk b3619 96 [.int .i64 q3617.From, .int .i64 q3617.To, .int .i64 q3617.Delay, .int .i64 q3617.Tokens], .row A3448 n3449 c3450 2 1 (ints r3446)] 21 (by kernel_rfl) hs ?_; clear hs; intro w hs
                          have hs0 : St [] W w [.blk b1 39 [.int .i64 p0.Events, .slice A_p0_1 p0.Places.length c_p0_1], .blk b2 67 [.int .i64 p1.Period, .slice A_p1_1 p1.Starts.length c_p1_1], .row A5 n6 c7 2 1 (ints r3.1), .mat A2766 ms2768.length c2767 23 2 (vs1836 ++ ([.slice A2755 xs2759.length xs2757.length])) ms3551, .blk b3619 96 [.int .i64 q3617.From, .int .i64 q3617.To, .int .i64 q3617.Delay, .int .i64 q3617.Tokens], .row A3448 n3449 c3450 2 1 (ints r3446)] := hs
                          refine gY (i := 0) [] rfl (by kernel_rfl) (by kernel_rfl) hf hs0 rfl rfl rfl (Y_move rfl rfl) ?_; clear hf; intro a hf
                          refine gY (i := 1) [] rfl (by kernel_rfl) (by kernel_rfl) hf hs0 rfl rfl rfl (Y_move rfl rfl) ?_; clear hf; intro a hf
                          refine gY (i := 2) [] rfl (by kernel_rfl) (by kernel_rfl) hf hs0 rfl rfl rfl (Y_move rfl rfl) ?_; clear hf; intro a hf
                          refine gY (i := 3) [] rfl (by kernel_rfl) (by kernel_rfl) hf hs0 rfl rfl rfl (Y_move rfl rfl) ?_; clear hf; intro a hf
                          obtain ⟨q3643, hi3644, hm3612⟩ := bind_some hm3612
                          obtain ⟨hi3644a, hi3644b, hi3644q⟩ := idx_some hi3644
                          refine gY (i := 4) [] rfl (by kernel_rfl) (by kernel_rfl) hf hs0 rfl rfl rfl (Y_index rfl rfl rfl el23 ti2 (Rd.isAt (hs0.rdRow (i := 3) rfl ⟨hq3556, hv3557⟩) (at1 (ints_at hi3644q))) hi3644a (ltn hn3555 hi3644b)) ?_; clear hf; intro a hf
                          refine gY (i := 5) [] rfl (by kernel_rfl) (by kernel_rfl) hf hs0 rfl rfl rfl (Y_load_rd rfl rfl (fun w hs => hs.rdRow (i := 3) rfl ⟨hq3556, hv3557⟩) (at1 (ints_at hi3644q)) ag2) ?_; clear hf; intro a hf
                          refine gY (i := 6) [] rfl (by kernel_rfl) (by kernel_rfl) hf hs0 rfl rfl rfl (Y_move rfl rfl) ?_; clear hf; intro a hf
                          refine gY (i := 7) [] rfl (by kernel_rfl) (by kernel_rfl) hf hs0 rfl rfl rfl (Y_move rfl rfl) ?_; clear hf; intro a hf
                          refine gY (i := 8) [] rfl (by kernel_rfl) (by kernel_rfl) hf hs0 rfl rfl rfl (Y_fieldAddr rfl rfl fo96_3) ?_; clear hf; intro a hf
                          refine gY (i := 9) [] rfl (by kernel_rfl) (by kernel_rfl) hf hs0 rfl rfl rfl (Y_load_blk rfl rfl (i := 4) rfl rfl ag2) ?_; clear hf; intro a hf
                          refine gY (i := 10) [] rfl (by kernel_rfl) (by kernel_rfl) hf hs0 rfl rfl rfl (Y_sub rfl rfl rfl) ?_; clear hf; intro a hf
                          obtain ⟨q3645, hi3646, hm3612⟩ := bind_some hm3612
                          obtain ⟨hi3646a, hi3646b, hi3646q⟩ := idx_some hi3646
                          obtain ⟨A3647, c3648, hv3649⟩ := hs0.matRow (i := 3) rfl hi3646q
                          refine gY (i := 11) [] rfl (by kernel_rfl) (by kernel_rfl) hf hs0 rfl rfl rfl (Y_index rfl rfl rfl el46 ti23 (Rd.isAt (hs0.rdV (i := 3) rfl) hv3649) hi3646a (ltn hn3552 hi3646b)) ?_; clear hf; intro a hf
                          refine gY (i := 12) [] rfl (by kernel_rfl) (by kernel_rfl) hf hs0 rfl rfl rfl (Y_load_rd rfl rfl (fun w hs => hs.rdV (i := 3) rfl) (at1 hv3649) ag23) ?_; clear hf; intro a hf
                          refine gY (i := 13) [] rfl (by kernel_rfl) (by kernel_rfl) hf hs0 rfl rfl rfl (Y_fieldAddr rfl rfl fo96_0) ?_; clear hf; intro a hf
                          refine gY (i := 14) [] rfl (by kernel_rfl) (by kernel_rfl) hf hs0 rfl rfl rfl (Y_load_blk rfl rfl (i := 4) rfl rfl ag2) ?_; clear hf; intro a hf
                          obtain ⟨q3650, hi3651, hm3612⟩ := bind_some hm3612
                          obtain ⟨hi3651a, hi3651b, hi3651q⟩ := idx_some hi3651
                          refine gY (i := 15) [] rfl (by kernel_rfl) (by kernel_rfl) hf hs0 rfl rfl rfl (Y_index rfl rfl rfl el23 ti2 (Rd.isAt (hs0.rdRow (i := 3) rfl ⟨hi3646q, hv3649⟩) (at1 (ints_at hi3651q))) hi3651a hi3651b) ?_; clear hf; intro a hf
                          refine gY (i := 16) [] rfl (by kernel_rfl) (by kernel_rfl) hf hs0 rfl rfl rfl (Y_load_rd rfl rfl (fun w hs => hs.rdRow (i := 3) rfl ⟨hi3646q, hv3649⟩) (at1 (ints_at hi3651q)) ag2) ?_; clear hf; intro a hf
                          refine gY (i := 17) [] rfl (by kernel_rfl) (by kernel_rfl) hf hs0 rfl rfl rfl (Y_move rfl rfl) ?_; clear hf; intro a hf
                          refine gY (i := 18) [] rfl (by kernel_rfl) (by kernel_rfl) hf hs0 rfl rfl rfl (Y_sub rfl rfl rfl) ?_; clear hf; intro a hf
                          refine gY (i := 19) [] rfl (by kernel_rfl) (by kernel_rfl) hf hs0 rfl rfl rfl (Y_max rfl rfl rfl) ?_; clear hf; intro a hf
                          obtain ⟨q3652, hi3653, hm3612⟩ := bind_some hm3612
                          obtain ⟨hi3653a, hi3653b, hi3653q⟩ := idx_some hi3653
                          refine gY (i := 20) [] rfl (by kernel_rfl) (by kernel_rfl) hf hs0 rfl rfl rfl (Y_index rfl rfl rfl el23 ti2 (Rd.isAt (hs0.rdRow (i := 3) rfl ⟨hq3556, hv3557⟩) (at1 (ints_at hi3653q))) hi3653a (ltn hn3555 hi3653b)) ?_; clear hf; intro a hf
                          refine gRun (i := 21) rfl (by kernel_rfl) ?_
                          obtain ⟨xs3654, hu3656, hm3612⟩ := bind_some hm3612
                          obtain ⟨ms3655, hu3657, hm3612⟩ := bind_some hm3612
                          refine sStoreM (i := 3) (k := (ms1831.length : Int)) hf hs rfl rfl rfl rfl rfl rfl hq3556 hv3557 rfl hu3656 hu3657 ti2 ?_; clear hs; intro w hs
                          obtain ⟨hq3658, hv3659⟩ := rowUpd hu3656 hu3657 hv3557
                          have hs : St [] W w [.blk b1 39 [.int .i64 p0.Events, .slice A_p0_1 p0.Places.length c_p0_1], .blk b2 67 [.int .i64 p1.Period, .slice A_p1_1 p1.Starts.length c_p1_1], .row A5 n6 c7 2 1 (ints r3.1), .mat A2766 ms2768.length c2767 23 2 (vs1836 ++ ([.slice A2755 xs2759.length xs2757.length])) ms3655, .blk b3619 96 [.int .i64 q3617.From, .int .i64 q3617.To, .int .i64 q3617.Delay, .int .i64 q3617.Tokens], .row A3448 n3449 c3450 2 1 (ints r3446)] := hs
                          refine wpO_nil ⟨Or.inl rfl, ?_⟩
                          refine gDone (by kernel_rfl) ?_
                          clear hs0
                          refine wpL_nil (Qb_normal ?_)
                          refine wpL_region ?_
                          refine sY hf hs rfl rfl rfl (Y_add rfl rfl rfl) ?_; clear hf; intro a hf
                          refine sY hf hs rfl rfl rfl (Y_move rfl rfl) ?_; clear hf; intro a hf
                          refine wpO_nil ?_
                          refine wpL_nil (Ql_normal ?_)
                          exact ⟨ms3655, (IntKind.i64.wrap (x3553 + 1)), xs3654, hm3612, ((hn3552).trans (upd_len hu3657).symm), ((hn3555).trans (upd_len hu3656).symm), hq3658, hv3659, (Fr.pick (Fr.pick (Fr.pick (Fr.pick (Fr.pick (Fr.pick (Fr.pick (Fr.pick (Fr.pick (Fr.pick (Fr.pick (Fr.pick (Fr.pick (Fr.pick (Fr.pick (Fr.pick hf.none hf rfl) hf rfl) hf rfl) hf rfl) hf rfl) hf rfl) hf rfl) hf rfl) hf rfl) hf rfl) hf rfl) hf rfl) hf rfl) hf rfl) hf rfl) hf rfl), hs.sel [0, 1, 2, 3, 5] (by decide)⟩
                        · have hm3612 := bif_f hm3612 hb3625
                          refine wpL_skip ?_
                          refine wpL_nil (Qb_normal ?_)
                          refine wpL_region ?_
                          refine sY hf hs rfl rfl rfl (Y_add rfl rfl rfl) ?_; clear hf; intro a hf
                          refine sY hf hs rfl rfl rfl (Y_move rfl rfl) ?_; clear hf; intro a hf
                          refine wpO_nil ?_
                          refine wpL_nil (Ql_normal ?_)
                          exact ⟨ms3551, (IntKind.i64.wrap (x3553 + 1)), xs3554, hm3612, hn3552, hn3555, hq3556, hv3557, (Fr.pick (Fr.pick (Fr.pick (Fr.pick (Fr.pick (Fr.pick (Fr.pick (Fr.pick (Fr.pick (Fr.pick (Fr.pick (Fr.pick (Fr.pick (Fr.pick (Fr.pick (Fr.pick hf.none hf rfl) hf rfl) hf rfl) hf rfl) hf rfl) hf rfl) hf rfl) hf rfl) hf rfl) hf rfl) hf rfl) hf rfl) hf rfl) hf rfl) hf rfl) hf rfl), hs.sel [0, 1, 2, 3, 5] (by decide)⟩
                    · have hm3612 := bif_f hm3612 hb3614
                      refine wpL_exit (Ql_exit (Qb_exit ?_))
                      exact ⟨ms3551, xs3554, Option.some.inj hm3612, hn3552, hn3555, hq3556, hv3557, (Fr.pick (Fr.pick (Fr.pick (Fr.pick (Fr.pick (Fr.pick (Fr.pick (Fr.pick (Fr.pick (Fr.pick (Fr.pick (Fr.pick hf.none hf rfl) hf rfl) hf rfl) hf rfl) hf rfl) hf rfl) hf rfl) hf rfl) hf rfl) hf rfl) hf rfl) hf rfl), hs.sel [0, 1, 2, 3] (by decide)⟩
                · rintro a w ⟨ms3604, xs3606, hr_, hn3605, hn3607, hq3608, hv3609, hf, hs⟩
                  subst hr_
                  try dsimp only at hm3441
                  refine wpL_nil (Qb_normal ?_)
                  refine wpL_region ?_
                  refine sY hf hs rfl rfl rfl (Y_add rfl rfl rfl) ?_; clear hf; intro a hf
                  refine sY hf hs rfl rfl rfl (Y_move rfl rfl) ?_; clear hf; intro a hf
                  refine wpO_nil ?_
                  refine wpL_nil (Ql_normal ?_)
                  exact ⟨ms3604, (IntKind.i64.wrap (x3215 + 1)), xs3606, hm3441, hn3605, hn3607, hq3608, hv3609, (Fr.pick (Fr.pick (Fr.pick (Fr.pick (Fr.pick (Fr.pick (Fr.pick (Fr.pick (Fr.pick (Fr.pick (Fr.pick (Fr.pick hf.none hf rfl) hf rfl) hf rfl) hf rfl) hf rfl) hf rfl) hf rfl) hf rfl) hf rfl) hf rfl) hf rfl) hf rfl), hs⟩
              · have hm3441 := bif_f hm3441 hb3443
                refine wpL_exit (Ql_exit (Qb_exit ?_))
                exact ⟨ms3213, Option.some.inj hm3441, hn3214, (Fr.pick (Fr.pick (Fr.pick (Fr.pick (Fr.pick (Fr.pick (Fr.pick hf.none hf rfl) hf rfl) hf rfl) hf rfl) hf rfl) hf rfl) hf rfl), hs⟩
          · rintro a w ⟨ms3437, hr_, hn3438, hf, hs⟩
            subst hr_
            try dsimp only at hm2752
            refine wpL_nil (Qb_normal ?_)
            refine wpL_region ?_
            refine sY hf hs rfl rfl rfl (Y_add rfl rfl rfl) ?_; clear hf; intro a hf
            refine sY hf hs rfl rfl rfl (Y_move rfl rfl) ?_; clear hf; intro a hf
            refine wpO_nil ?_
            refine wpL_nil (Ql_normal ?_)
            exact ⟨ms3437, (IntKind.i64.wrap (x1837 + 1)), A2766, ms2768.length, c2767, (vs1836 ++ ([.slice A2755 xs2759.length xs2757.length])), hm2752, hn3438, (Fr.pick (Fr.pick (Fr.pick (Fr.pick (Fr.pick (Fr.pick (Fr.pick hf.none hf rfl) hf rfl) hf rfl) hf rfl) hf rfl) hf rfl) hf rfl), hs⟩
      · have hm2752 := bif_f hm2752 hb2754
        refine wpL_exit (Ql_exit (Qb_exit ?_))
        exact ⟨ms1831, A1832, n1833, c1834, vs1836, Option.some.inj hm2752, hn1835, (Fr.pick hf.none hf rfl), hs.sel [3] (by decide)⟩
  · rintro a w ⟨ms2744, A2745, n2746, c2747, vs2749, hr_, hn2748, hf, hs⟩
    subst hr_
    try dsimp only at hm
    refine wpL_seq ?_
    refine wpL_region ?_
    refine sY hf hs rfl rfl rfl (Y_move rfl rfl) ?_; clear hf; intro a hf
    refine sY hf hs rfl rfl rfl (Y_assign rfl rfl) ?_; clear hf; intro a hf
    refine wpO_nil ?_
    obtain rfl := Option.some.inj hm
    refine wpL_ret (ret_tmp rfl hf rfl ?_)
    exact ⟨_, rfl, A2745, n2746, c2747, vs2749, rfl, hn2748, hs⟩

set_option maxRecDepth 100000 in
theorem impl_settledTable_ok (F : Nat) (p0_g : GEventGraph) (A_p0_g_1 : Option Addr) (n_p0_g_1 c_p0_g_1 : Nat) (hn_p0_g_1 : n_p0_g_1 = p0_g.Places.length) (p1_t : GTimetable) (A_p1_t_1 : Option Addr) (n_p1_t_1 c_p1_t_1 : Nat) (hn_p1_t_1 : n_p1_t_1 = p1_t.Starts.length) (p2_delays : List Int) (A_p2_delays_1 : Option Addr) (n_p2_delays_1 c_p2_delays_1 : Nat) (hn_p2_delays_1 : n_p2_delays_1 = p2_delays.length) (r : List (List Int) × Int × Int) (W : World) (hm : impl_settledTable F p0_g p1_t p2_delays = some r) (h_p0_g_1 : Rd W A_p0_g_1 ((recs GPlace.cells) p0_g.Places)) (h_p1_t_1 : Rd W A_p1_t_1 (ints p1_t.Starts)) (h_p2_delays_1 : Rd W A_p2_delays_1 (ints p2_delays)) :
    Calls Try.prog 122 [.agg #[.int .i64 p0_g.Events, .slice A_p0_g_1 n_p0_g_1 c_p0_g_1], .agg #[.int .i64 p1_t.Period, .slice A_p1_t_1 n_p1_t_1 c_p1_t_1], .slice A_p2_delays_1 n_p2_delays_1 c_p2_delays_1].toArray W fun e w' => ∃ v, e = .returned v ∧ ∃ A99, ∃ n100, ∃ c101, ∃ vs103, v = .tuple #[.slice A99 n100 c101, .int .i64 r.2.1, .int .i64 r.2.2] ∧ n100 = r.1.length ∧ St [] W w' [.mat A99 n100 c101 23 2 vs103 r.1] := by
  subst hn_p0_g_1
  subst hn_p1_t_1
  subst hn_p2_delays_1
  unfold impl_settledTable at hm
  refine Calls.enter (N := 33) Try.func122 rfl rfl rfl (fun a hf => ?_)
  have hs := St.start W
  obtain ⟨w, hw_⟩ : ∃ w, w = W := ⟨W, rfl⟩
  clear hw_ w
  refine wpL_seq ?_
  refine wpL_region ?_
  refine sBox hf hs rfl rfl rfl rfl rfl (cs := [.int .i64 p0_g.Events, .slice A_p0_g_1 p0_g.Places.length c_p0_g_1]) rfl ?_; clear hf hs; intro a w b1 hs hf
  have hs : St [] W w [.blk b1 39 [.int .i64 p0_g.Events, .slice A_p0_g_1 p0_g.Places.length c_p0_g_1]] := hs
  refine sBox hf hs rfl rfl rfl rfl rfl (cs := [.int .i64 p1_t.Period, .slice A_p1_t_1 p1_t.Starts.length c_p1_t_1]) rfl ?_; clear hf hs; intro a w b2 hs hf
  have hs : St [] W w [.blk b1 39 [.int .i64 p0_g.Events, .slice A_p0_g_1 p0_g.Places.length c_p0_g_1], .blk b2 67 [.int .i64 p1_t.Period, .slice A_p1_t_1 p1_t.Starts.length c_p1_t_1]] := hs
  refine sY hf hs rfl rfl rfl (Y_assign rfl rfl) ?_; clear hf; intro a hf
  refine sY hf hs rfl rfl rfl (Y_assign rfl rfl) ?_; clear hf; intro a hf
  refine sY hf hs rfl rfl rfl (Y_assign rfl rfl) ?_; clear hf; intro a hf
  refine wpO_nil ?_
  refine wpL_seq ?_
  refine wpL_region ?_
  refine sY hf hs rfl rfl rfl (Y_load_blkS rfl rfl (i := 0) rfl ag39 ti39 rfl) ?_; clear hf; intro a hf
  refine sY hf hs rfl rfl rfl (Y_load_blkS rfl rfl (i := 1) rfl ag67 ti67 rfl) ?_; clear hf; intro a hf
  refine sY hf hs rfl rfl rfl (Y_move rfl rfl) ?_; clear hf; intro a hf
  obtain ⟨r3, hc4, hm⟩ := bind_some hm
  refine sCall hf rfl rfl rfl rfl (cap := []) rfl rfl en169 (impl_delayTable_ok F p0_g A_p0_g_1 p0_g.Places.length c_p0_g_1 rfl p1_t A_p1_t_1 p1_t.Starts.length c_p1_t_1 rfl p2_delays A_p2_delays_1 p2_delays.length c_p2_delays_1 rfl 50 _ _ hc4 (h_p0_g_1.at hs) (h_p1_t_1.at hs) (h_p2_delays_1.at hs)) ?_; clear hf
  rintro _ w ⟨A5, n6, c7, vs9, rfl, hn8, hs1⟩ a hf
  have hs : St [] W w [.blk b1 39 [.int .i64 p0_g.Events, .slice A_p0_g_1 p0_g.Places.length c_p0_g_1], .blk b2 67 [.int .i64 p1_t.Period, .slice A_p1_t_1 p1_t.Starts.length c_p1_t_1], .mat A5 n6 c7 23 2 vs9 r3] := hs.join hs1
  clear hs1
  refine sY hf hs rfl rfl rfl (Y_assign rfl rfl) ?_; clear hf; intro a hf
  refine wpO_nil ?_
  refine wpL_seq ?_
  refine wpL_region ?_
  refine sY hf hs rfl rfl rfl (Y_move rfl rfl) ?_; clear hf; intro a hf
  refine sY hf hs rfl rfl rfl (Y_lenH rfl rfl el46 hn8) ?_; clear hf; intro a hf
  refine sY hf hs rfl rfl rfl (Y_assign rfl rfl) ?_; clear hf; intro a hf
  refine wpO_nil ?_
  refine wpL_seq ?_
  obtain ⟨r73, hl74, hm⟩ := bind_some hm
  refine wpL_block (fun a w => ∃ x72 : Int, x72 = r73 ∧ Fr a 33 [(9, .slice A5 n6 c7), (10, .int .i64 x72)] ∧ St [] W w [.mat A5 n6 c7 23 2 vs9 r3]) ?_ ?_
  · refine wpL_loop (fun n a w => ∃ x51 : Int, impl_settledTable_L1 F r3 n x51 = some r73 ∧ Fr a 33 [(9, .slice A5 n6 c7), (10, .int .i64 x51)] ∧ St [] W w [.mat A5 n6 c7 23 2 vs9 r3]) F ?_ ?_ ?_
    · exact ⟨(r3.length : Int), hl74, (Fr.pick (Fr.pick hf.none hf rfl) hf rfl), hs.sel [2] (by decide)⟩
    · rintro a w ⟨x51, h0_, -, -⟩; simp [impl_settledTable_L1] at h0_
    · rintro n76 a w ⟨x51, hm75, hf, hs⟩
      rw [impl_settledTable_L1] at hm75
      refine wpL_seq ?_
      refine wpL_seq ?_
      obtain ⟨r86, hj87, hm75⟩ := bind_some hm75
      refine wpL_cut (fun a w => ∃ b85 : Bool, b85 = r86 ∧ Fr a 33 [(9, .slice A5 n6 c7), (10, .int .i64 x51), (26, .bool b85)] ∧ St [] W w [.mat A5 n6 c7 23 2 vs9 r3]) ?_ ?_
      · refine wpL_region ?_
        refine sY hf hs rfl rfl rfl (Y_move rfl rfl) ?_; clear hf; intro a hf
        refine sY hf hs rfl rfl rfl (Y_gtr rfl rfl rfl) ?_; clear hf; intro a hf
        refine sY hf hs rfl rfl rfl (Y_move rfl rfl) ?_; clear hf; intro a hf
        refine bsplit (decide (0 < x51)) (fun hb88 => ?_) (fun hb88 => ?_)
        · have hj87 := bif_t hj87 hb88
          refine sYg hf hs rfl rfl rfl (congrArg (fun b => some (Value.bool b)) hb88) rfl rfl rfl (Y_move rfl rfl) ?_; clear hf; intro a hf
          refine sYg hf hs rfl rfl rfl (congrArg (fun b => some (Value.bool b)) hb88) rfl rfl rfl (Y_move rfl rfl) ?_; clear hf; intro a hf
          refine sYg hf hs rfl rfl rfl (congrArg (fun b => some (Value.bool b)) hb88) rfl rfl rfl (Y_sub rfl rfl rfl) ?_; clear hf; intro a hf
          obtain ⟨q89, hi90, hj87⟩ := bind_some hj87
          obtain ⟨hi90a, hi90b, hi90q⟩ := idx_some hi90
          obtain ⟨A91, c92, hv93⟩ := hs.matRow (i := 0) rfl hi90q
          refine sYg hf hs rfl rfl rfl (congrArg (fun b => some (Value.bool b)) hb88) rfl rfl rfl (Y_index rfl rfl rfl el46 ti23 (Rd.isAt (hs.rdV (i := 0) rfl) hv93) hi90a (ltn hn8 hi90b)) ?_; clear hf; intro a hf
          refine sYg hf hs rfl rfl rfl (congrArg (fun b => some (Value.bool b)) hb88) rfl rfl rfl (Y_load_rd rfl rfl (fun w hs => hs.rdV (i := 0) rfl) (at1 hv93) ag23) ?_; clear hf; intro a hf
          obtain ⟨r94, hc95, hj87⟩ := bind_some hj87
          refine sCallg hf rfl rfl rfl (congrArg (fun b => some (Value.bool b)) hb88) rfl rfl rfl rfl (cap := []) rfl rfl en80 (impl_allWithin_ok F q89 A91 q89.length c92 rfl 0 0 _ _ hc95 (hs.rdRow (i := 0) rfl ⟨hi90q, hv93⟩)) ?_; clear hf
          rintro _ w ⟨rfl, hs1⟩ a hf
          have hs : St [] W w [.mat A5 n6 c7 23 2 vs9 r3] := hs.ext hs1.below
          clear hs1
          refine sY hf hs rfl rfl rfl (Y_pickT rfl (congrArg (fun b => some (Value.bool b)) hb88) rfl) ?_; clear hf; intro a hf
          refine wpO_nil ?_
          refine wpL_nil (then_normal ?_)
          exact ⟨r94, Option.some.inj hj87, (Fr.pick (Fr.pick (Fr.pick hf.none hf rfl) hf rfl) hf rfl), hs⟩
        · have hj87 := bif_f hj87 hb88
          refine sNo hf rfl rfl rfl (congrArg (fun b => some (Value.bool b)) hb88) rfl rfl rfl ?_; clear hf; intro a hf
          refine sNo hf rfl rfl rfl (congrArg (fun b => some (Value.bool b)) hb88) rfl rfl rfl ?_; clear hf; intro a hf
          refine sNo hf rfl rfl rfl (congrArg (fun b => some (Value.bool b)) hb88) rfl rfl rfl ?_; clear hf; intro a hf
          refine sNo hf rfl rfl rfl (congrArg (fun b => some (Value.bool b)) hb88) rfl rfl rfl ?_; clear hf; intro a hf
          refine sNo hf rfl rfl rfl (congrArg (fun b => some (Value.bool b)) hb88) rfl rfl rfl ?_; clear hf; intro a hf
          refine sNo hf rfl rfl rfl (congrArg (fun b => some (Value.bool b)) hb88) rfl rfl rfl ?_; clear hf; intro a hf
          refine sY hf hs rfl rfl rfl (Y_pickF rfl (congrArg (fun b => some (Value.bool b)) hb88) rfl) ?_; clear hf; intro a hf
          refine wpO_nil ?_
          refine wpL_nil (then_normal ?_)
          exact ⟨false, Option.some.inj hj87, (Fr.pick (Fr.pick (Fr.pick hf.none hf rfl) hf rfl) hf rfl), hs⟩
      · rintro a w ⟨b85, hr_, hf, hs⟩
        subst hr_
        try dsimp only at hm75
        refine wpL_cond hf rfl (fun hb96 => ?_) (fun hb96 => ?_)
        · have hm75 := bif_t hm75 hb96
          refine wpL_skip ?_
          refine wpL_block0 ?_
          refine wpL_region ?_
          refine sY hf hs rfl rfl rfl (Y_move rfl rfl) ?_; clear hf; intro a hf
          refine sY hf hs rfl rfl rfl (Y_sub rfl rfl rfl) ?_; clear hf; intro a hf
          refine sY hf hs rfl rfl rfl (Y_assign rfl rfl) ?_; clear hf; intro a hf
          refine wpO_nil ?_
          refine wpL_nil (Qb_normal ?_)
          refine wpL_nil (Ql_normal ?_)
          exact ⟨(IntKind.i64.wrap (x51 - 1)), hm75, (Fr.pick (Fr.pick hf.none hf rfl) hf rfl), hs⟩
        · have hm75 := bif_f hm75 hb96
          refine wpL_exit (Ql_exit (Qb_exit ?_))
          exact ⟨x51, Option.some.inj hm75, (Fr.pick (Fr.pick hf.none hf rfl) hf rfl), hs⟩
  · rintro a w ⟨x72, hr_, hf, hs⟩
    subst hr_
    try dsimp only at hm
    refine wpL_seq ?_
    refine wpL_seq ?_
    refine wpL_region ?_
    refine sY hf hs rfl rfl rfl (Y_move rfl rfl) ?_; clear hf; intro a hf
    refine sY hf hs rfl rfl rfl (Y_gtr rfl rfl rfl) ?_; clear hf; intro a hf
    refine wpO_nil ?_
    refine wpL_cond hf rfl (fun hb97 => ?_) (fun hb97 => ?_)
    · have hm := bif_t hm hb97
      refine wpL_seq ?_
      refine wpL_region ?_
      refine sY hf hs rfl rfl rfl (Y_assign rfl rfl) ?_; clear hf; intro a hf
      refine sY hf hs rfl rfl rfl (Y_assign rfl rfl) ?_; clear hf; intro a hf
      refine sY hf hs rfl rfl rfl (Y_assign rfl rfl) ?_; clear hf; intro a hf
      refine wpO_nil ?_
      have hs : St [] W _ [.mat A5 n6 c7 23 2 vs9 r3, .mat none 0 0 23 2 [] ([] : List (List Int))] := hs.addNilM 23 2
      obtain rfl := Option.some.inj hm
      refine wpL_ret (ret_tmp3 rfl hf rfl rfl rfl ?_)
      exact ⟨_, rfl, none, 0, 0, [], rfl, rfl, hs.sel [1] (by decide)⟩
    · have hm := bif_f hm hb97
      refine wpL_skip ?_
      refine wpL_seq ?_
      refine wpL_region ?_
      refine sY hf hs rfl rfl rfl (Y_move rfl rfl) ?_; clear hf; intro a hf
      refine sY hf hs rfl rfl rfl (Y_move rfl rfl) ?_; clear hf; intro a hf
      refine sY hf hs rfl rfl rfl (Y_assign rfl rfl) ?_; clear hf; intro a hf
      refine sY hf hs rfl rfl rfl (Y_assign rfl rfl) ?_; clear hf; intro a hf
      refine sY hf hs rfl rfl rfl (Y_assign rfl rfl) ?_; clear hf; intro a hf
      refine wpO_nil ?_
      obtain rfl := Option.some.inj hm
      refine wpL_ret (ret_tmp3 rfl hf rfl rfl rfl ?_)
      exact ⟨_, rfl, A5, n6, c7, vs9, rfl, hn8, hs⟩

set_option maxRecDepth 100000 in
theorem slices_Grow_int64_ok (F : Nat) (p1_n : Int) (r : List Int) (W : World) (hm : slices_Grow_int64 F p1_n = some r) :
    Calls Try.prog 156 [.slice none 0 0, .int .i64 p1_n].toArray W fun e w' => ∃ v, e = .returned v ∧ ∃ A24, ∃ n25, ∃ c26, v = .slice A24 n25 c26 ∧ n25 = r.length ∧ St [] W w' [.row A24 n25 c26 2 1 (ints r)] := by
  unfold slices_Grow_int64 at hm
  refine Calls.enter (N := 27) Try.func156 rfl rfl rfl (fun a hf => ?_)
  have hs := St.start W
  obtain ⟨w, hw_⟩ : ∃ w, w = W := ⟨W, rfl⟩
  clear hw_ w
  refine wpL_seq ?_
  refine wpL_region ?_
  refine sY hf hs rfl rfl rfl (Y_assign rfl rfl) ?_; clear hf; intro a hf
  refine wpO_nil ?_
  refine wpL_seq ?_
  refine wpL_seq ?_
  refine wpL_region ?_
  refine sY hf hs rfl rfl rfl (Y_move rfl rfl) ?_; clear hf; intro a hf
  refine sY hf hs rfl rfl rfl (Y_lss rfl rfl rfl) ?_; clear hf; intro a hf
  refine wpO_nil ?_
  refine wpL_cond hf rfl (fun hb1 => ?_) (fun hb1 => ?_)
  · have hm := bif_t hm hb1
    cases hm
  · have hm := bif_f hm hb1
    refine wpL_skip ?_
    refine wpL_seq ?_
    refine wpL_seq ?_
    refine wpL_region ?_
    refine sY hf hs rfl rfl rfl (Y_move rfl rfl) ?_; clear hf; intro a hf
    refine sY hf hs rfl rfl rfl (Y_move rfl rfl) ?_; clear hf; intro a hf
    refine sY hf hs rfl rfl rfl (Y_cap0 rfl rfl el23) ?_; clear hf; intro a hf
    refine sY hf hs rfl rfl rfl (Y_move rfl rfl) ?_; clear hf; intro a hf
    refine sY hf hs rfl rfl rfl (Y_lenH rfl rfl el23 rfl) ?_; clear hf; intro a hf
    refine sY hf hs rfl rfl rfl (Y_sub rfl rfl rfl) ?_; clear hf; intro a hf
    refine sY hf hs rfl rfl rfl (Y_sub rfl rfl rfl) ?_; clear hf; intro a hf
    refine sY hf hs rfl rfl rfl (Y_assign rfl rfl) ?_; clear hf; intro a hf
    refine wpO_nil ?_
    refine wpL_seq ?_
    refine wpL_region ?_
    refine sY hf hs rfl rfl rfl (Y_move rfl rfl) ?_; clear hf; intro a hf
    refine sY hf hs rfl rfl rfl (Y_gtr rfl rfl rfl) ?_; clear hf; intro a hf
    refine wpO_nil ?_
    obtain ⟨r14, hj15, hm⟩ := bind_some hm
    refine wpL_cut (fun a w => ∃ xs9 : List Int, ∃ A10, ∃ n11, ∃ c12, xs9 = r14 ∧ n11 = xs9.length ∧ Fr a 27 [(0, .slice A10 n11 c12)] ∧ St [] W w [.row A10 n11 c12 2 1 (ints xs9)]) ?_ ?_
    · refine wpL_cond hf rfl (fun hb16 => ?_) (fun hb16 => ?_)
      · have hj15 := bif_t hj15 hb16
        refine wpL_region ?_
        refine sY hf hs rfl rfl rfl (Y_move rfl rfl) ?_; clear hf; intro a hf
        refine sY hf hs rfl rfl rfl (Y_move rfl rfl) ?_; clear hf; intro a hf
        refine sY hf hs rfl rfl rfl (Y_cap0 rfl rfl el23) ?_; clear hf; intro a hf
        refine sY hf hs rfl rfl rfl (Y_sliceH (l := 0) rfl rfl rfl (by decide) (by decide) el23 ti2) ?_; clear hf; intro a hf
        refine sY hf hs rfl rfl rfl (Y_move rfl rfl) ?_; clear hf; intro a hf
        obtain ⟨xs19, hk20, hj15⟩ := bind_some hj15
        refine sZeros hf hs rfl rfl rfl rfl rfl rfl hk20 el23 un3 ti2 ?_; clear hf hs; intro a w A17 c18 hs hf
        have hs : St [] W w [.row A17 xs19.length c18 2 1 (ints xs19)] := hs
        refine sY hf hs rfl rfl rfl (Y_move rfl rfl) ?_; clear hf; intro a hf
        refine sY hf hs rfl rfl rfl (Y_lenH rfl rfl el23 rfl) ?_; clear hf; intro a hf
        obtain ⟨xs22, hk21, hj15⟩ := bind_some hj15
        refine sY hf hs rfl rfl rfl (Y_sliceH rfl rfl rfl (cutTo_some hk21).1 (leC rfl (hs.capR (i := 0) rfl) hk21) el23 ti2) ?_; clear hf; intro a hf
        have hs := hs.cutInts (i := 0) rfl rfl hk21
        have hs : St [] W _ [.row A17 ((([] : List Int).length : Int) : Int).toNat c18 2 1 (ints xs22)] := hs
        refine sY hf hs rfl rfl rfl (Y_assign rfl rfl) ?_; clear hf; intro a hf
        refine wpO_nil ?_
        refine wpL_nil (then_normal ?_)
        exact ⟨xs22, A17, ((([] : List Int).length : Int) : Int).toNat, c18, Option.some.inj hj15, (pre_len hk21), (Fr.pick hf.none hf rfl), hs⟩
      · have hj15 := bif_f hj15 hb16
        refine wpL_skip ?_
        have hs : St [] W _ [.row none 0 0 2 1 (ints ([] : List Int))] := hs.addNil 2 1
        refine wpL_nil (then_normal ?_)
        exact ⟨([] : List Int), none, 0, 0, Option.some.inj hj15, rfl, (Fr.pick hf.none hf rfl), hs⟩
    · rintro a w ⟨xs9, A10, n11, c12, hr_, hn13, hf, hs⟩
      subst hr_
      try dsimp only at hm
      refine wpL_seq ?_
      refine wpL_region ?_
      refine sY hf hs rfl rfl rfl (Y_move rfl rfl) ?_; clear hf; intro a hf
      refine sY hf hs rfl rfl rfl (Y_assign rfl rfl) ?_; clear hf; intro a hf
      refine wpO_nil ?_
      obtain rfl := Option.some.inj hm
      refine wpL_ret (ret_tmp rfl hf rfl ?_)
      exact ⟨_, rfl, A10, n11, c12, rfl, hn13, hs⟩

set_option maxRecDepth 100000 in
theorem slices_Concat_int64_ok (F : Nat) (p0_slices : List (List Int)) (A_p0_slices_1 : Option Addr) (n_p0_slices_1 c_p0_slices_1 : Nat) (hn_p0_slices_1 : n_p0_slices_1 = p0_slices.length) (r : List Int) (W : World) (hm : slices_Concat_int64 F p0_slices = some r) (h_p0_slices_1 : RdM W A_p0_slices_1 p0_slices) :
    Calls Try.prog 102 [.slice A_p0_slices_1 n_p0_slices_1 c_p0_slices_1].toArray W fun e w' => ∃ v, e = .returned v ∧ ∃ A137, ∃ n138, ∃ c139, v = .slice A137 n138 c139 ∧ n138 = r.length ∧ St [] W w' [.row A137 n138 c139 2 1 (ints r)] := by
  subst hn_p0_slices_1
  unfold slices_Concat_int64 at hm
  refine Calls.enter (N := 36) Try.func102 rfl rfl rfl (fun a hf => ?_)
  have hs := St.start W
  obtain ⟨w, hw_⟩ : ∃ w, w = W := ⟨W, rfl⟩
  clear hw_ w
  refine wpL_seq ?_
  refine wpL_region ?_
  refine sY hf hs rfl rfl rfl (Y_assign rfl rfl) ?_; clear hf; intro a hf
  refine wpO_nil ?_
  refine wpL_seq ?_
  refine wpL_region ?_
  refine sY hf hs rfl rfl rfl (Y_assign rfl rfl) ?_; clear hf; intro a hf
  refine wpO_nil ?_
  refine wpL_seq ?_
  refine wpL_seq ?_
  refine wpL_region ?_
  refine sY hf hs rfl rfl rfl (Y_move rfl rfl) ?_; clear hf; intro a hf
  refine sY hf hs rfl rfl rfl (Y_lenH rfl rfl el46 rfl) ?_; clear hf; intro a hf
  refine sY hf hs rfl rfl rfl (Y_move rfl rfl) ?_; clear hf; intro a hf
  refine wpO_nil ?_
  obtain ⟨r39, hl40, hm⟩ := bind_some hm
  refine wpL_block (fun a w => ∃ x38 : Int, x38 = r39 ∧ Fr a 36 [(0, .slice A_p0_slices_1 p0_slices.length c_p0_slices_1), (3, .int .i64 x38)] ∧ St [] W w []) ?_ ?_
  · refine wpL_loop (fun n a w => ∃ x25 : Int, ∃ x26 : Int, slices_Concat_int64_L1 F p0_slices n x25 x26 = some r39 ∧ Fr a 36 [(0, .slice A_p0_slices_1 p0_slices.length c_p0_slices_1), (3, .int .i64 x25), (9, .slice A_p0_slices_1 p0_slices.length c_p0_slices_1), (10, .int .i64 (p0_slices.length : Int)), (11, .int .i64 x26)] ∧ St [] W w []) F ?_ ?_ ?_
    · exact ⟨0, 0, hl40, (Fr.pick (Fr.pick (Fr.pick (Fr.pick (Fr.pick hf.none hf rfl) hf rfl) hf rfl) hf rfl) hf rfl), hs⟩
    · rintro a w ⟨x25, x26, h0_, -, -⟩; simp [slices_Concat_int64_L1] at h0_
    · rintro n42 a w ⟨x25, x26, hm41, hf, hs⟩
      rw [slices_Concat_int64_L1] at hm41
      refine wpL_seq ?_
      refine wpL_region ?_
      refine sY hf hs rfl rfl rfl (Y_lss rfl rfl rfl) ?_; clear hf; intro a hf
      refine wpO_nil ?_
      refine wpL_seq ?_
      refine wpL_cond hf rfl (fun hb43 => ?_) (fun hb43 => ?_)
      · have hm41 := bif_t hm41 hb43
        refine wpL_skip ?_
        refine wpL_seq ?_
        refine wpL_block0 ?_
        refine wpL_seq ?_
        refine wpL_region ?_
        obtain ⟨q44, hi45, hm41⟩ := bind_some hm41
        obtain ⟨hi45a, hi45b, hi45q⟩ := idx_some hi45
        obtain ⟨vs46, hv47, hr48⟩ := id h_p0_slices_1
        obtain ⟨A49, c50, hv51, hR52⟩ := hr48 _ _ hi45q
        refine sY hf hs rfl rfl rfl (Y_index rfl rfl rfl el46 ti23 (Rd.isAt hv47 hv51) hi45a hi45b) ?_; clear hf; intro a hf
        refine sY hf hs rfl rfl rfl (Y_load_rd rfl rfl (fun w hs => hv47.at hs) (at1 hv51) ag23) ?_; clear hf; intro a hf
        refine sY hf hs rfl rfl rfl (Y_assign rfl rfl) ?_; clear hf; intro a hf
        refine wpO_nil ?_
        refine wpL_seq ?_
        refine wpL_region ?_
        refine sY hf hs rfl rfl rfl (Y_move rfl rfl) ?_; clear hf; intro a hf
        refine sY hf hs rfl rfl rfl (Y_move rfl rfl) ?_; clear hf; intro a hf
        refine sY hf hs rfl rfl rfl (Y_lenH rfl rfl el23 rfl) ?_; clear hf; intro a hf
        refine sY hf hs rfl rfl rfl (Y_add rfl rfl rfl) ?_; clear hf; intro a hf
        refine sY hf hs rfl rfl rfl (Y_assign rfl rfl) ?_; clear hf; intro a hf
        refine wpO_nil ?_
        refine wpL_seq ?_
        refine wpL_region ?_
        refine sY hf hs rfl rfl rfl (Y_move rfl rfl) ?_; clear hf; intro a hf
        refine sY hf hs rfl rfl rfl (Y_lss rfl rfl rfl) ?_; clear hf; intro a hf
        refine wpO_nil ?_
        refine wpL_cond hf rfl (fun hb53 => ?_) (fun hb53 => ?_)
        · have hm41 := bif_t hm41 hb53
          cases hm41
        · have hm41 := bif_f hm41 hb53
          refine wpL_skip ?_
          refine wpL_nil (Qb_normal ?_)
          refine wpL_region ?_
          refine sY hf hs rfl rfl rfl (Y_add rfl rfl rfl) ?_; clear hf; intro a hf
          refine sY hf hs rfl rfl rfl (Y_move rfl rfl) ?_; clear hf; intro a hf
          refine wpO_nil ?_
          refine wpL_nil (Ql_normal ?_)
          exact ⟨(IntKind.i64.wrap (x25 + (q44.length : Int))), (IntKind.i64.wrap (x26 + 1)), hm41, (Fr.pick (Fr.pick (Fr.pick (Fr.pick (Fr.pick hf.none hf rfl) hf rfl) hf rfl) hf rfl) hf rfl), hs⟩
      · have hm41 := bif_f hm41 hb43
        refine wpL_exit (Ql_exit (Qb_exit ?_))
        exact ⟨x25, Option.some.inj hm41, (Fr.pick (Fr.pick hf.none hf rfl) hf rfl), hs⟩
  · rintro a w ⟨x38, hr_, hf, hs⟩
    subst hr_
    try dsimp only at hm
    refine wpL_seq ?_
    refine wpL_region ?_
    refine sY hf hs rfl rfl rfl (Y_move rfl rfl) ?_; clear hf; intro a hf
    obtain ⟨r54, hc55, hm⟩ := bind_some hm
    refine sCall hf rfl rfl rfl rfl (cap := []) rfl rfl en156 (slices_Grow_int64_ok F x38 _ _ hc55) ?_; clear hf
    rintro _ w ⟨A56, n57, c58, rfl, hn59, hs1⟩ a hf
    have hs : St [] W w [.row A56 n57 c58 2 1 (ints r54)] := hs.join hs1
    clear hs1
    refine sY hf hs rfl rfl rfl (Y_assign rfl rfl) ?_; clear hf; intro a hf
    refine wpO_nil ?_
    refine wpL_seq ?_
    refine wpL_seq ?_
    refine wpL_region ?_
    refine sY hf hs rfl rfl rfl (Y_move rfl rfl) ?_; clear hf; intro a hf
    refine sY hf hs rfl rfl rfl (Y_lenH rfl rfl el46 rfl) ?_; clear hf; intro a hf
    refine sY hf hs rfl rfl rfl (Y_move rfl rfl) ?_; clear hf; intro a hf
    refine wpO_nil ?_
    obtain ⟨r119, hl120, hm⟩ := bind_some hm
    refine wpL_block (fun a w => ∃ xs114 : List Int, ∃ A115, ∃ n116, ∃ c117, xs114 = r119 ∧ n116 = xs114.length ∧ Fr a 36 [(6, .slice A115 n116 c117)] ∧ St [] W w [.row A115 n116 c117 2 1 (ints xs114)]) ?_ ?_
    · refine wpL_loop (fun n a w => ∃ xs94 : List Int, ∃ x99 : Int, ∃ A95, ∃ n96, ∃ c97, slices_Concat_int64_L2 F p0_slices n xs94 x99 = some r119 ∧ n96 = xs94.length ∧ Fr a 36 [(6, .slice A95 n96 c97), (25, .slice A_p0_slices_1 p0_slices.length c_p0_slices_1), (26, .int .i64 (p0_slices.length : Int)), (27, .int .i64 x99)] ∧ St [] W w [.row A95 n96 c97 2 1 (ints xs94)]) F ?_ ?_ ?_
      · exact ⟨r54, 0, A56, n57, c58, hl120, hn59, (Fr.pick (Fr.pick (Fr.pick (Fr.pick hf.none hf rfl) hf rfl) hf rfl) hf rfl), hs⟩
      · rintro a w ⟨xs94, x99, A95, n96, c97, h0_, -, -, -⟩; simp [slices_Concat_int64_L2] at h0_
      · rintro n122 a w ⟨xs94, x99, A95, n96, c97, hm121, hn98, hf, hs⟩
        rw [slices_Concat_int64_L2] at hm121
        refine wpL_seq ?_
        refine wpL_region ?_
        refine sY hf hs rfl rfl rfl (Y_lss rfl rfl rfl) ?_; clear hf; intro a hf
        refine wpO_nil ?_
        refine wpL_seq ?_
        refine wpL_cond hf rfl (fun hb123 => ?_) (fun hb123 => ?_)
        · have hm121 := bif_t hm121 hb123
          refine wpL_skip ?_
          refine wpL_seq ?_
          refine wpL_block0 ?_
          refine wpL_seq ?_
          refine wpL_region ?_
          obtain ⟨q124, hi125, hm121⟩ := bind_some hm121
          obtain ⟨hi125a, hi125b, hi125q⟩ := idx_some hi125
          obtain ⟨vs126, hv127, hr128⟩ := id h_p0_slices_1
          obtain ⟨A129, c130, hv131, hR132⟩ := hr128 _ _ hi125q
          refine sY hf hs rfl rfl rfl (Y_index rfl rfl rfl el46 ti23 (Rd.isAt hv127 hv131) hi125a hi125b) ?_; clear hf; intro a hf
          refine sY hf hs rfl rfl rfl (Y_load_rd rfl rfl (fun w hs => hv127.at hs) (at1 hv131) ag23) ?_; clear hf; intro a hf
          refine sY hf hs rfl rfl rfl (Y_assign rfl rfl) ?_; clear hf; intro a hf
          refine wpO_nil ?_
          refine wpL_region ?_
          refine sY hf hs rfl rfl rfl (Y_move rfl rfl) ?_; clear hf; intro a hf
          refine sY hf hs rfl rfl rfl (Y_move rfl rfl) ?_; clear hf; intro a hf
          obtain ⟨xs135, ha136, hm121⟩ := bind_some hm121
          refine sAppendG (i := 0) (xs := xs94) (ys := q124) (enc := ints) hf hs rfl rfl rfl rfl rfl rfl hn98 rfl rfl ha136 el23 ti2 rfl rfl rfl (hR132.at hs) ints_len1 ints_append ints_one ?_; clear hf hs; intro a w A133 c134 hs hf
          have hs : St [] W w [.row A133 xs135.length c134 2 1 (ints xs135)] := hs
          refine sY hf hs rfl rfl rfl (Y_assign rfl rfl) ?_; clear hf; intro a hf
          refine wpO_nil ?_
          refine wpL_nil (Qb_normal ?_)
          refine wpL_region ?_
          refine sY hf hs rfl rfl rfl (Y_add rfl rfl rfl) ?_; clear hf; intro a hf
          refine sY hf hs rfl rfl rfl (Y_move rfl rfl) ?_; clear hf; intro a hf
          refine wpO_nil ?_
          refine wpL_nil (Ql_normal ?_)
          exact ⟨xs135, (IntKind.i64.wrap (x99 + 1)), A133, xs135.length, c134, hm121, rfl, (Fr.pick (Fr.pick (Fr.pick (Fr.pick hf.none hf rfl) hf rfl) hf rfl) hf rfl), hs⟩
        · have hm121 := bif_f hm121 hb123
          refine wpL_exit (Ql_exit (Qb_exit ?_))
          exact ⟨xs94, A95, n96, c97, Option.some.inj hm121, hn98, (Fr.pick hf.none hf rfl), hs⟩
    · rintro a w ⟨xs114, A115, n116, c117, hr_, hn118, hf, hs⟩
      subst hr_
      try dsimp only at hm
      refine wpL_seq ?_
      refine wpL_region ?_
      refine sY hf hs rfl rfl rfl (Y_move rfl rfl) ?_; clear hf; intro a hf
      refine sY hf hs rfl rfl rfl (Y_assign rfl rfl) ?_; clear hf; intro a hf
      refine wpO_nil ?_
      obtain rfl := Option.some.inj hm
      refine wpL_ret (ret_tmp rfl hf rfl ?_)
      exact ⟨_, rfl, A115, n116, c117, rfl, hn118, hs⟩

set_option maxRecDepth 100000 in
theorem impl_total_ok (F : Nat) (p0_list : List Int) (A_p0_list_1 : Option Addr) (n_p0_list_1 c_p0_list_1 : Nat) (hn_p0_list_1 : n_p0_list_1 = p0_list.length) (r : Int) (W : World) (hm : impl_total F p0_list = some r) (h_p0_list_1 : Rd W A_p0_list_1 (ints p0_list)) :
    Calls Try.prog 123 [.slice A_p0_list_1 n_p0_list_1 c_p0_list_1].toArray W fun e w' => ∃ v, e = .returned v ∧ v = .int .i64 r ∧ St [] W w' [] := by
  subst hn_p0_list_1
  unfold impl_total at hm
  refine Calls.enter (N := 17) Try.func123 rfl rfl rfl (fun a hf => ?_)
  have hs := St.start W
  obtain ⟨w, hw_⟩ : ∃ w, w = W := ⟨W, rfl⟩
  clear hw_ w
  refine wpL_seq ?_
  refine wpL_region ?_
  refine sY hf hs rfl rfl rfl (Y_assign rfl rfl) ?_; clear hf; intro a hf
  refine wpO_nil ?_
  refine wpL_seq ?_
  refine wpL_region ?_
  refine sY hf hs rfl rfl rfl (Y_assign rfl rfl) ?_; clear hf; intro a hf
  refine wpO_nil ?_
  refine wpL_seq ?_
  refine wpL_seq ?_
  refine wpL_region ?_
  refine sY hf hs rfl rfl rfl (Y_move rfl rfl) ?_; clear hf; intro a hf
  refine sY hf hs rfl rfl rfl (Y_lenH rfl rfl el23 rfl) ?_; clear hf; intro a hf
  refine sY hf hs rfl rfl rfl (Y_move rfl rfl) ?_; clear hf; intro a hf
  refine wpO_nil ?_
  obtain ⟨r15, hl16, hm⟩ := bind_some hm
  refine wpL_block (fun a w => ∃ x14 : Int, x14 = r15 ∧ Fr a 17 [(3, .int .i64 x14)] ∧ St [] W w []) ?_ ?_
  · refine wpL_loop (fun n a w => ∃ x9 : Int, ∃ x10 : Int, impl_total_L1 F p0_list n x9 x10 = some r15 ∧ Fr a 17 [(3, .int .i64 x9), (6, .slice A_p0_list_1 p0_list.length c_p0_list_1), (7, .int .i64 (p0_list.length : Int)), (8, .int .i64 x10)] ∧ St [] W w []) F ?_ ?_ ?_
    · exact ⟨0, 0, hl16, (Fr.pick (Fr.pick (Fr.pick (Fr.pick hf.none hf rfl) hf rfl) hf rfl) hf rfl), hs⟩
    · rintro a w ⟨x9, x10, h0_, -, -⟩; simp [impl_total_L1] at h0_
    · rintro n18 a w ⟨x9, x10, hm17, hf, hs⟩
      rw [impl_total_L1] at hm17
      refine wpL_seq ?_
      refine wpL_region ?_
      refine sY hf hs rfl rfl rfl (Y_lss rfl rfl rfl) ?_; clear hf; intro a hf
      refine wpO_nil ?_
      refine wpL_seq ?_
      refine wpL_cond hf rfl (fun hb19 => ?_) (fun hb19 => ?_)
      · have hm17 := bif_t hm17 hb19
        refine wpL_skip ?_
        refine wpL_seq ?_
        refine wpL_block0 ?_
        refine wpL_seq ?_
        refine wpL_region ?_
        obtain ⟨q20, hi21, hm17⟩ := bind_some hm17
        obtain ⟨hi21a, hi21b, hi21q⟩ := idx_some hi21
        refine sY hf hs rfl rfl rfl (Y_index rfl rfl rfl el23 ti2 (Rd.isAt (h_p0_list_1.at hs) (at1 (ints_at hi21q))) hi21a hi21b) ?_; clear hf; intro a hf
        refine sY hf hs rfl rfl rfl (Y_load_rd rfl rfl (fun w hs => h_p0_list_1.at hs) (at1 (ints_at hi21q)) ag2) ?_; clear hf; intro a hf
        refine sY hf hs rfl rfl rfl (Y_assign rfl rfl) ?_; clear hf; intro a hf
        refine wpO_nil ?_
        refine wpL_region ?_
        refine sY hf hs rfl rfl rfl (Y_move rfl rfl) ?_; clear hf; intro a hf
        refine sY hf hs rfl rfl rfl (Y_move rfl rfl) ?_; clear hf; intro a hf
        refine sY hf hs rfl rfl rfl (Y_add rfl rfl rfl) ?_; clear hf; intro a hf
        refine sY hf hs rfl rfl rfl (Y_assign rfl rfl) ?_; clear hf; intro a hf
        refine wpO_nil ?_
        refine wpL_nil (Qb_normal ?_)
        refine wpL_region ?_
        refine sY hf hs rfl rfl rfl (Y_add rfl rfl rfl) ?_; clear hf; intro a hf
        refine sY hf hs rfl rfl rfl (Y_move rfl rfl) ?_; clear hf; intro a hf
        refine wpO_nil ?_
        refine wpL_nil (Ql_normal ?_)
        exact ⟨(IntKind.i64.wrap (x9 + q20)), (IntKind.i64.wrap (x10 + 1)), hm17, (Fr.pick (Fr.pick (Fr.pick (Fr.pick hf.none hf rfl) hf rfl) hf rfl) hf rfl), hs⟩
      · have hm17 := bif_f hm17 hb19
        refine wpL_exit (Ql_exit (Qb_exit ?_))
        exact ⟨x9, Option.some.inj hm17, (Fr.pick hf.none hf rfl), hs⟩
  · rintro a w ⟨x14, hr_, hf, hs⟩
    subst hr_
    try dsimp only at hm
    refine wpL_seq ?_
    refine wpL_region ?_
    refine sY hf hs rfl rfl rfl (Y_move rfl rfl) ?_; clear hf; intro a hf
    refine sY hf hs rfl rfl rfl (Y_assign rfl rfl) ?_; clear hf; intro a hf
    refine wpO_nil ?_
    obtain rfl := Option.some.inj hm
    refine wpL_ret (ret_tmp rfl hf rfl ?_)
    exact ⟨_, rfl, rfl, hs⟩

set_option maxRecDepth 100000 in
theorem impl_TotalDelay_ok (F : Nat) (p0_g : GEventGraph) (A_p0_g_1 : Option Addr) (n_p0_g_1 c_p0_g_1 : Nat) (hn_p0_g_1 : n_p0_g_1 = p0_g.Places.length) (p1_t : GTimetable) (A_p1_t_1 : Option Addr) (n_p1_t_1 c_p1_t_1 : Nat) (hn_p1_t_1 : n_p1_t_1 = p1_t.Starts.length) (p2_delays : List Int) (A_p2_delays_1 : Option Addr) (n_p2_delays_1 c_p2_delays_1 : Nat) (hn_p2_delays_1 : n_p2_delays_1 = p2_delays.length) (r : Int × Int) (W : World) (hm : impl_TotalDelay F p0_g p1_t p2_delays = some r) (h_p0_g_1 : Rd W A_p0_g_1 ((recs GPlace.cells) p0_g.Places)) (h_p1_t_1 : Rd W A_p1_t_1 (ints p1_t.Starts)) (h_p2_delays_1 : Rd W A_p2_delays_1 (ints p2_delays)) :
    Calls Try.prog 50 [.agg #[.int .i64 p0_g.Events, .slice A_p0_g_1 n_p0_g_1 c_p0_g_1], .agg #[.int .i64 p1_t.Period, .slice A_p1_t_1 n_p1_t_1 c_p1_t_1], .slice A_p2_delays_1 n_p2_delays_1 c_p2_delays_1].toArray W fun e w' => ∃ v, e = .returned v ∧ v = .tuple #[.int .i64 r.1, .int .i64 r.2] ∧ St [] W w' [] := by
  subst hn_p0_g_1
  subst hn_p1_t_1
  subst hn_p2_delays_1
  unfold impl_TotalDelay at hm
  refine Calls.enter (N := 33) Try.func50 rfl rfl rfl (fun a hf => ?_)
  have hs := St.start W
  obtain ⟨w, hw_⟩ : ∃ w, w = W := ⟨W, rfl⟩
  clear hw_ w
  refine wpL_seq ?_
  refine wpL_region ?_
  refine sBox hf hs rfl rfl rfl rfl rfl (cs := [.int .i64 p0_g.Events, .slice A_p0_g_1 p0_g.Places.length c_p0_g_1]) rfl ?_; clear hf hs; intro a w b1 hs hf
  have hs : St [] W w [.blk b1 39 [.int .i64 p0_g.Events, .slice A_p0_g_1 p0_g.Places.length c_p0_g_1]] := hs
  refine sBox hf hs rfl rfl rfl rfl rfl (cs := [.int .i64 p1_t.Period, .slice A_p1_t_1 p1_t.Starts.length c_p1_t_1]) rfl ?_; clear hf hs; intro a w b2 hs hf
  have hs : St [] W w [.blk b1 39 [.int .i64 p0_g.Events, .slice A_p0_g_1 p0_g.Places.length c_p0_g_1], .blk b2 67 [.int .i64 p1_t.Period, .slice A_p1_t_1 p1_t.Starts.length c_p1_t_1]] := hs
  refine sY hf hs rfl rfl rfl (Y_assign rfl rfl) ?_; clear hf; intro a hf
  refine sY hf hs rfl rfl rfl (Y_assign rfl rfl) ?_; clear hf; intro a hf
  refine wpO_nil ?_
  refine wpL_seq ?_
  refine wpL_seq ?_
  refine wpL_region ?_
  refine sY hf hs rfl rfl rfl (Y_load_blkS rfl rfl (i := 0) rfl ag39 ti39 rfl) ?_; clear hf; intro a hf
  refine sY hf hs rfl rfl rfl (Y_load_blkS rfl rfl (i := 1) rfl ag67 ti67 rfl) ?_; clear hf; intro a hf
  refine sY hf hs rfl rfl rfl (Y_move rfl rfl) ?_; clear hf; intro a hf
  obtain ⟨r3, hc4, hm⟩ := bind_some hm
  refine sCall hf rfl rfl rfl rfl (cap := []) rfl rfl en121 (impl_checkDelays_ok F p0_g A_p0_g_1 p0_g.Places.length c_p0_g_1 rfl p1_t A_p1_t_1 p1_t.Starts.length c_p1_t_1 rfl p2_delays A_p2_delays_1 p2_delays.length c_p2_delays_1 rfl true _ _ hc4 (h_p0_g_1.at hs) (h_p1_t_1.at hs) (h_p2_delays_1.at hs)) ?_; clear hf
  rintro _ w ⟨rfl, hs1⟩ a hf
  have hs : St [] W w [.blk b1 39 [.int .i64 p0_g.Events, .slice A_p0_g_1 p0_g.Places.length c_p0_g_1], .blk b2 67 [.int .i64 p1_t.Period, .slice A_p1_t_1 p1_t.Starts.length c_p1_t_1]] := hs.ext hs1.below
  clear hs1
  refine sY hf hs rfl rfl rfl (Y_assign rfl rfl) ?_; clear hf; intro a hf
  refine wpO_nil ?_
  refine wpL_seq ?_
  refine wpL_region ?_
  refine sY hf hs rfl rfl rfl (Y_move rfl rfl) ?_; clear hf; intro a hf
  refine sY hf hs rfl rfl rfl (Y_neq rfl rfl rfl) ?_; clear hf; intro a hf
  refine wpO_nil ?_
  refine wpL_cond hf rfl (fun hb5 => ?_) (fun hb5 => ?_)
  · have hm := bif_t hm hb5
    refine wpL_seq ?_
    refine wpL_region ?_
    refine sY hf hs rfl rfl rfl (Y_move rfl rfl) ?_; clear hf; intro a hf
    refine sY hf hs rfl rfl rfl (Y_assign rfl rfl) ?_; clear hf; intro a hf
    refine sY hf hs rfl rfl rfl (Y_assign rfl rfl) ?_; clear hf; intro a hf
    refine wpO_nil ?_
    obtain rfl := Option.some.inj hm
    refine wpL_ret (ret_tmp2 rfl hf rfl rfl ?_)
    exact ⟨_, rfl, rfl, hs.sel [] (by decide)⟩
  · have hm := bif_f hm hb5
    refine wpL_skip ?_
    refine wpL_seq ?_
    refine wpL_region ?_
    refine sY hf hs rfl rfl rfl (Y_load_blkS rfl rfl (i := 0) rfl ag39 ti39 rfl) ?_; clear hf; intro a hf
    refine sY hf hs rfl rfl rfl (Y_load_blkS rfl rfl (i := 1) rfl ag67 ti67 rfl) ?_; clear hf; intro a hf
    refine sY hf hs rfl rfl rfl (Y_move rfl rfl) ?_; clear hf; intro a hf
    obtain ⟨r6, hc7, hm⟩ := bind_some hm
    refine sCall hf rfl rfl rfl rfl (cap := []) rfl rfl en122 (impl_settledTable_ok F p0_g A_p0_g_1 p0_g.Places.length c_p0_g_1 rfl p1_t A_p1_t_1 p1_t.Starts.length c_p1_t_1 rfl p2_delays A_p2_delays_1 p2_delays.length c_p2_delays_1 rfl _ _ hc7 (h_p0_g_1.at hs) (h_p1_t_1.at hs) (h_p2_delays_1.at hs)) ?_; clear hf
    rintro _ w ⟨A8, n9, c10, vs12, rfl, hn11, hs1⟩ a hf
    have hs : St [] W w [.blk b1 39 [.int .i64 p0_g.Events, .slice A_p0_g_1 p0_g.Places.length c_p0_g_1], .blk b2 67 [.int .i64 p1_t.Period, .slice A_p1_t_1 p1_t.Starts.length c_p1_t_1], .mat A8 n9 c10 23 2 vs12 r6.1] := hs.join hs1
    clear hs1
    refine sY hf hs rfl rfl rfl (Y_move rfl rfl) ?_; clear hf; intro a hf
    refine sY hf hs rfl rfl rfl (Y_extract rfl rfl rfl) ?_; clear hf; intro a hf
    refine sY hf hs rfl rfl rfl (Y_extract rfl rfl rfl) ?_; clear hf; intro a hf
    refine sY hf hs rfl rfl rfl (Y_extract rfl rfl rfl) ?_; clear hf; intro a hf
    refine sY hf hs rfl rfl rfl (Y_assign rfl rfl) ?_; clear hf; intro a hf
    refine sY hf hs rfl rfl rfl (Y_assign rfl rfl) ?_; clear hf; intro a hf
    refine sY hf hs rfl rfl rfl (Y_assign rfl rfl) ?_; clear hf; intro a hf
    refine wpO_nil ?_
    refine wpL_seq ?_
    refine wpL_seq ?_
    refine wpL_region ?_
    refine sY hf hs rfl rfl rfl (Y_move rfl rfl) ?_; clear hf; intro a hf
    refine sY hf hs rfl rfl rfl (Y_neq rfl rfl rfl) ?_; clear hf; intro a hf
    refine wpO_nil ?_
    refine wpL_cond hf rfl (fun hb13 => ?_) (fun hb13 => ?_)
    · have hm := bif_t hm hb13
      refine wpL_seq ?_
      refine wpL_region ?_
      refine sY hf hs rfl rfl rfl (Y_move rfl rfl) ?_; clear hf; intro a hf
      refine sY hf hs rfl rfl rfl (Y_assign rfl rfl) ?_; clear hf; intro a hf
      refine sY hf hs rfl rfl rfl (Y_assign rfl rfl) ?_; clear hf; intro a hf
      refine wpO_nil ?_
      obtain rfl := Option.some.inj hm
      refine wpL_ret (ret_tmp2 rfl hf rfl rfl ?_)
      exact ⟨_, rfl, rfl, hs.sel [] (by decide)⟩
    · have hm := bif_f hm hb13
      refine wpL_skip ?_
      refine wpL_seq ?_
      refine wpL_region ?_
      refine sY hf hs rfl rfl rfl (Y_move rfl rfl) ?_; clear hf; intro a hf
      obtain ⟨r14, hc15, hm⟩ := bind_some hm
      refine sCall hf rfl rfl rfl rfl (cap := []) rfl rfl en102 (slices_Concat_int64_ok F r6.1 A8 n9 c10 hn11 _ _ hc15 (hs.rdM (i := 2) rfl)) ?_; clear hf
      rintro _ w ⟨A16, n17, c18, rfl, hn19, hs1⟩ a hf
      have hs : St [] W w [.blk b1 39 [.int .i64 p0_g.Events, .slice A_p0_g_1 p0_g.Places.length c_p0_g_1], .blk b2 67 [.int .i64 p1_t.Period, .slice A_p1_t_1 p1_t.Starts.length c_p1_t_1], .mat A8 n9 c10 23 2 vs12 r6.1, .row A16 n17 c18 2 1 (ints r14)] := hs.join hs1
      clear hs1
      obtain ⟨r20, hc21, hm⟩ := bind_some hm
      refine sCall hf rfl rfl rfl rfl (cap := []) rfl rfl en123 (impl_total_ok F r14 A16 n17 c18 hn19 _ _ hc21 (hs.rd (i := 3) rfl)) ?_; clear hf
      rintro _ w ⟨rfl, hs1⟩ a hf
      have hs : St [] W w [.blk b1 39 [.int .i64 p0_g.Events, .slice A_p0_g_1 p0_g.Places.length c_p0_g_1], .blk b2 67 [.int .i64 p1_t.Period, .slice A_p1_t_1 p1_t.Starts.length c_p1_t_1], .mat A8 n9 c10 23 2 vs12 r6.1, .row A16 n17 c18 2 1 (ints r14)] := hs.ext hs1.below
      clear hs1
      refine sY hf hs rfl rfl rfl (Y_assign rfl rfl) ?_; clear hf; intro a hf
      refine sY hf hs rfl rfl rfl (Y_assign rfl rfl) ?_; clear hf; intro a hf
      refine wpO_nil ?_
      obtain rfl := Option.some.inj hm
      refine wpL_ret (ret_tmp2 rfl hf rfl rfl ?_)
      exact ⟨_, rfl, rfl, hs.sel [] (by decide)⟩

set_option maxRecDepth 100000 in
theorem laws_eqPlace_ok (F : Nat) (p0_a : GPlace) (p1_b : GPlace) (r : Bool) (W : World) (hm : laws_eqPlace F p0_a p1_b = some r) :
    Calls Try.prog 150 [.agg #[.int .i64 p0_a.From, .int .i64 p0_a.To, .int .i64 p0_a.Delay, .int .i64 p0_a.Tokens], .agg #[.int .i64 p1_b.From, .int .i64 p1_b.To, .int .i64 p1_b.Delay, .int .i64 p1_b.Tokens]].toArray W fun e w' => ∃ v, e = .returned v ∧ v = .bool r ∧ St [] W w' [] := by
  unfold laws_eqPlace at hm
  refine Calls.enter (N := 25) Try.func150 rfl rfl rfl (fun a hf => ?_)
  have hs := St.start W
  obtain ⟨w, hw_⟩ : ∃ w, w = W := ⟨W, rfl⟩
  clear hw_ w
  refine wpL_seq ?_
  refine wpL_region ?_
  refine sBox hf hs rfl rfl rfl rfl rfl (cs := [.int .i64 p0_a.From, .int .i64 p0_a.To, .int .i64 p0_a.Delay, .int .i64 p0_a.Tokens]) rfl ?_; clear hf hs; intro a w b1 hs hf
  have hs : St [] W w [.blk b1 96 [.int .i64 p0_a.From, .int .i64 p0_a.To, .int .i64 p0_a.Delay, .int .i64 p0_a.Tokens]] := hs
  refine sBox hf hs rfl rfl rfl rfl rfl (cs := [.int .i64 p1_b.From, .int .i64 p1_b.To, .int .i64 p1_b.Delay, .int .i64 p1_b.Tokens]) rfl ?_; clear hf hs; intro a w b2 hs hf
  have hs : St [] W w [.blk b1 96 [.int .i64 p0_a.From, .int .i64 p0_a.To, .int .i64 p0_a.Delay, .int .i64 p0_a.Tokens], .blk b2 96 [.int .i64 p1_b.From, .int .i64 p1_b.To, .int .i64 p1_b.Delay, .int .i64 p1_b.Tokens]] := hs
  refine sY hf hs rfl rfl rfl (Y_assign rfl rfl) ?_; clear hf; intro a hf
  refine wpO_nil ?_
  refine wpL_seq ?_
  refine wpL_seq ?_
  refine wpL_region ?_
  refine sY hf hs rfl rfl rfl (Y_fieldAddr rfl rfl fo96_0) ?_; clear hf; intro a hf
  refine sY hf hs rfl rfl rfl (Y_load_blk rfl rfl (i := 0) rfl rfl ag2) ?_; clear hf; intro a hf
  refine sY hf hs rfl rfl rfl (Y_fieldAddr rfl rfl fo96_0) ?_; clear hf; intro a hf
  refine sY hf hs rfl rfl rfl (Y_load_blk rfl rfl (i := 1) rfl rfl ag2) ?_; clear hf; intro a hf
  refine sY hf hs rfl rfl rfl (Y_neq rfl rfl rfl) ?_; clear hf; intro a hf
  refine wpO_nil ?_
  refine wpL_cond hf rfl (fun hb3 => ?_) (fun hb3 => ?_)
  · have hm := bif_t hm hb3
    refine wpL_seq ?_
    refine wpL_region ?_
    refine sY hf hs rfl rfl rfl (Y_assign rfl rfl) ?_; clear hf; intro a hf
    refine wpO_nil ?_
    obtain rfl := Option.some.inj hm
    refine wpL_ret (ret_tmp rfl hf rfl ?_)
    exact ⟨_, rfl, rfl, hs.sel [] (by decide)⟩
  · have hm := bif_f hm hb3
    refine wpL_skip ?_
    refine wpL_seq ?_
    refine wpL_seq ?_
    refine wpL_region ?_
    refine sY hf hs rfl rfl rfl (Y_fieldAddr rfl rfl fo96_1) ?_; clear hf; intro a hf
    refine sY hf hs rfl rfl rfl (Y_load_blk rfl rfl (i := 0) rfl rfl ag2) ?_; clear hf; intro a hf
    refine sY hf hs rfl rfl rfl (Y_fieldAddr rfl rfl fo96_1) ?_; clear hf; intro a hf
    refine sY hf hs rfl rfl rfl (Y_load_blk rfl rfl (i := 1) rfl rfl ag2) ?_; clear hf; intro a hf
    refine sY hf hs rfl rfl rfl (Y_neq rfl rfl rfl) ?_; clear hf; intro a hf
    refine wpO_nil ?_
    refine wpL_cond hf rfl (fun hb4 => ?_) (fun hb4 => ?_)
    · have hm := bif_t hm hb4
      refine wpL_seq ?_
      refine wpL_region ?_
      refine sY hf hs rfl rfl rfl (Y_assign rfl rfl) ?_; clear hf; intro a hf
      refine wpO_nil ?_
      obtain rfl := Option.some.inj hm
      refine wpL_ret (ret_tmp rfl hf rfl ?_)
      exact ⟨_, rfl, rfl, hs.sel [] (by decide)⟩
    · have hm := bif_f hm hb4
      refine wpL_skip ?_
      refine wpL_seq ?_
      refine wpL_seq ?_
      refine wpL_region ?_
      refine sY hf hs rfl rfl rfl (Y_fieldAddr rfl rfl fo96_2) ?_; clear hf; intro a hf
      refine sY hf hs rfl rfl rfl (Y_load_blk rfl rfl (i := 0) rfl rfl ag2) ?_; clear hf; intro a hf
      refine sY hf hs rfl rfl rfl (Y_fieldAddr rfl rfl fo96_2) ?_; clear hf; intro a hf
      refine sY hf hs rfl rfl rfl (Y_load_blk rfl rfl (i := 1) rfl rfl ag2) ?_; clear hf; intro a hf
      refine sY hf hs rfl rfl rfl (Y_neq rfl rfl rfl) ?_; clear hf; intro a hf
      refine wpO_nil ?_
      refine wpL_cond hf rfl (fun hb5 => ?_) (fun hb5 => ?_)
      · have hm := bif_t hm hb5
        refine wpL_seq ?_
        refine wpL_region ?_
        refine sY hf hs rfl rfl rfl (Y_assign rfl rfl) ?_; clear hf; intro a hf
        refine wpO_nil ?_
        obtain rfl := Option.some.inj hm
        refine wpL_ret (ret_tmp rfl hf rfl ?_)
        exact ⟨_, rfl, rfl, hs.sel [] (by decide)⟩
      · have hm := bif_f hm hb5
        refine wpL_skip ?_
        refine wpL_seq ?_
        refine wpL_seq ?_
        refine wpL_region ?_
        refine sY hf hs rfl rfl rfl (Y_fieldAddr rfl rfl fo96_3) ?_; clear hf; intro a hf
        refine sY hf hs rfl rfl rfl (Y_load_blk rfl rfl (i := 0) rfl rfl ag2) ?_; clear hf; intro a hf
        refine sY hf hs rfl rfl rfl (Y_fieldAddr rfl rfl fo96_3) ?_; clear hf; intro a hf
        refine sY hf hs rfl rfl rfl (Y_load_blk rfl rfl (i := 1) rfl rfl ag2) ?_; clear hf; intro a hf
        refine sY hf hs rfl rfl rfl (Y_neq rfl rfl rfl) ?_; clear hf; intro a hf
        refine wpO_nil ?_
        refine wpL_cond hf rfl (fun hb6 => ?_) (fun hb6 => ?_)
        · have hm := bif_t hm hb6
          refine wpL_seq ?_
          refine wpL_region ?_
          refine sY hf hs rfl rfl rfl (Y_assign rfl rfl) ?_; clear hf; intro a hf
          refine wpO_nil ?_
          obtain rfl := Option.some.inj hm
          refine wpL_ret (ret_tmp rfl hf rfl ?_)
          exact ⟨_, rfl, rfl, hs.sel [] (by decide)⟩
        · have hm := bif_f hm hb6
          refine wpL_skip ?_
          refine wpL_seq ?_
          refine wpL_region ?_
          refine sY hf hs rfl rfl rfl (Y_assign rfl rfl) ?_; clear hf; intro a hf
          refine wpO_nil ?_
          obtain rfl := Option.some.inj hm
          refine wpL_ret (ret_tmp rfl hf rfl ?_)
          exact ⟨_, rfl, rfl, hs.sel [] (by decide)⟩

set_option maxRecDepth 100000 in
theorem laws_eqPlaceS_ok (F : Nat) (p0_a : List GPlace) (A_p0_a_1 : Option Addr) (n_p0_a_1 c_p0_a_1 : Nat) (hn_p0_a_1 : n_p0_a_1 = p0_a.length) (p1_b : List GPlace) (A_p1_b_1 : Option Addr) (n_p1_b_1 c_p1_b_1 : Nat) (hn_p1_b_1 : n_p1_b_1 = p1_b.length) (r : Bool) (W : World) (hm : laws_eqPlaceS F p0_a p1_b = some r) (h_p0_a_1 : Rd W A_p0_a_1 ((recs GPlace.cells) p0_a)) (h_p1_b_1 : Rd W A_p1_b_1 ((recs GPlace.cells) p1_b)) :
    Calls Try.prog 84 [.slice A_p0_a_1 n_p0_a_1 c_p0_a_1, .slice A_p1_b_1 n_p1_b_1 c_p1_b_1].toArray W fun e w' => ∃ v, e = .returned v ∧ v = .bool r ∧ St [] W w' [] := by
  subst hn_p0_a_1
  subst hn_p1_b_1
  unfold laws_eqPlaceS at hm
  refine Calls.enter (N := 27) Try.func84 rfl rfl rfl (fun a hf => ?_)
  have hs := St.start W
  obtain ⟨w, hw_⟩ : ∃ w, w = W := ⟨W, rfl⟩
  clear hw_ w
  refine wpL_seq ?_
  refine wpL_region ?_
  refine sY hf hs rfl rfl rfl (Y_assign rfl rfl) ?_; clear hf; intro a hf
  refine wpO_nil ?_
  refine wpL_seq ?_
  refine wpL_seq ?_
  refine wpL_region ?_
  refine sY hf hs rfl rfl rfl (Y_move rfl rfl) ?_; clear hf; intro a hf
  refine sY hf hs rfl rfl rfl (Y_lenH rfl rfl el37 rfl) ?_; clear hf; intro a hf
  refine sY hf hs rfl rfl rfl (Y_move rfl rfl) ?_; clear hf; intro a hf
  refine sY hf hs rfl rfl rfl (Y_lenH rfl rfl el37 rfl) ?_; clear hf; intro a hf
  refine sY hf hs rfl rfl rfl (Y_neq rfl rfl rfl) ?_; clear hf; intro a hf
  refine wpO_nil ?_
  refine wpL_cond hf rfl (fun hb1 => ?_) (fun hb1 => ?_)
  · have hm := bif_t hm hb1
    refine wpL_seq ?_
    refine wpL_region ?_
    refine sY hf hs rfl rfl rfl (Y_assign rfl rfl) ?_; clear hf; intro a hf
    refine wpO_nil ?_
    obtain rfl := Option.some.inj hm
    refine wpL_ret (ret_tmp rfl hf rfl ?_)
    exact ⟨_, rfl, rfl, hs⟩
  · have hm := bif_f hm hb1
    refine wpL_skip ?_
    refine wpL_seq ?_
    refine wpL_seq ?_
    refine wpL_region ?_
    refine sY hf hs rfl rfl rfl (Y_assign rfl rfl) ?_; clear hf; intro a hf
    refine wpO_nil ?_
    obtain ⟨r28, hl29, hm⟩ := bind_some hm
    refine wpL_block (fun a w => Sum.inr () = r28 ∧ Fr a 27 [] ∧ St [] W w []) ?_ ?_
    · refine wpL_loop (fun n a w => ∃ x19 : Int, laws_eqPlaceS_L1 F p0_a p1_b n x19 = some r28 ∧ Fr a 27 [(0, .slice A_p0_a_1 p0_a.length c_p0_a_1), (1, .slice A_p1_b_1 p1_b.length c_p1_b_1), (5, .int .i64 x19)] ∧ St [] W w []) F ?_ ?_ ?_
      · exact ⟨0, hl29, (Fr.pick (Fr.pick (Fr.pick hf.none hf rfl) hf rfl) hf rfl), hs⟩
      · rintro a w ⟨x19, h0_, -, -⟩; simp [laws_eqPlaceS_L1] at h0_
      · rintro n31 a w ⟨x19, hm30, hf, hs⟩
        rw [laws_eqPlaceS_L1] at hm30
        refine wpL_seq ?_
        refine wpL_seq ?_
        refine wpL_region ?_
        refine sY hf hs rfl rfl rfl (Y_move rfl rfl) ?_; clear hf; intro a hf
        refine sY hf hs rfl rfl rfl (Y_move rfl rfl) ?_; clear hf; intro a hf
        refine sY hf hs rfl rfl rfl (Y_lenH rfl rfl el37 rfl) ?_; clear hf; intro a hf
        refine sY hf hs rfl rfl rfl (Y_lss rfl rfl rfl) ?_; clear hf; intro a hf
        refine wpO_nil ?_
        refine wpL_cond hf rfl (fun hb32 => ?_) (fun hb32 => ?_)
        · have hm30 := bif_t hm30 hb32
          refine wpL_skip ?_
          refine wpL_seq ?_
          refine wpL_block0 ?_
          refine wpL_seq ?_
          refine wpL_draw (by kernel_rfl) (by kernel_rfl) hs ?_
          refine qY hf rfl rfl rfl (Y_move rfl rfl) ?_; clear hf; intro a hf
          refine qY hf rfl rfl rfl (Y_move rfl rfl) ?_; clear hf; intro a hf
          obtain ⟨q33, hi34, hm30⟩ := bind_some hm30
          obtain ⟨hi34a, hi34b, hi34q⟩ := idx_some hi34
          refine qY hf rfl rfl rfl (Y_index rfl rfl rfl el37 ti96 (Rd.isAt (h_p0_a_1.at hs) (recs_at (s := 4) GPlace.len hi34q (j := 0) rfl)) hi34a hi34b) ?_; clear hf; intro a hf
          refine qY hf rfl rfl rfl (Y_load_rdS rfl rfl (us := [.int .i64 q33.From, .int .i64 q33.To, .int .i64 q33.Delay, .int .i64 q33.Tokens]) (fun w hs => h_p0_a_1.at hs) (fun j u hj => recs_at (s := 4) GPlace.len hi34q hj) (Nat.succ_pos _) ag96 ti96 rfl) ?_; clear hf; intro a hf
          refine qY hf rfl rfl rfl (Y_move rfl rfl) ?_; clear hf; intro a hf
          refine qY hf rfl rfl rfl (Y_move rfl rfl) ?_; clear hf; intro a hf
          obtain ⟨q35, hi36, hm30⟩ := bind_some hm30
          obtain ⟨hi36a, hi36b, hi36q⟩ := idx_some hi36
          refine qY hf rfl rfl rfl (Y_index rfl rfl rfl el37 ti96 (Rd.isAt (h_p1_b_1.at hs) (recs_at (s := 4) GPlace.len hi36q (j := 0) rfl)) hi36a hi36b) ?_; clear hf; intro a hf
          refine qY hf rfl rfl rfl (Y_load_rdS rfl rfl (us := [.int .i64 q35.From, .int .i64 q35.To, .int .i64 q35.Delay, .int .i64 q35.Tokens]) (fun w hs => h_p1_b_1.at hs) (fun j u hj => recs_at (s := 4) GPlace.len hi36q hj) (Nat.succ_pos _) ag96 ti96 rfl) ?_; clear hf; intro a hf
          obtain ⟨r37, hc38, hm30⟩ := bind_some hm30
          refine qCall hf rfl rfl rfl rfl (cap := []) rfl rfl en150 (v := .bool r37) (fun w hs => Calls.scal (laws_eqPlace_ok F q33 q35 _ _ hc38)) ?_; clear hf; intro a hf
          refine qY hf rfl rfl rfl (Y_not rfl rfl) ?_; clear hf; intro a hf
          refine qNil ?_; clear hs; intro w hs
          refine wpL_cond hf rfl (fun hb39 => ?_) (fun hb39 => ?_)
          · have hm30 := bif_t hm30 hb39
            refine wpL_seq ?_
            refine wpL_region ?_
            refine sY hf hs rfl rfl rfl (Y_assign rfl rfl) ?_; clear hf; intro a hf
            refine wpO_nil ?_
            obtain rfl := Option.some.inj hm30
            try dsimp only at hm
            obtain rfl := Option.some.inj hm
            refine wpL_ret (Qb_ret (Ql_ret (Qb_ret (ret_tmp rfl hf rfl ?_))))
            exact ⟨_, rfl, rfl, hs⟩
          · have hm30 := bif_f hm30 hb39
            refine wpL_skip ?_
            refine wpL_nil (Qb_normal ?_)
            refine wpL_region ?_
            refine sY hf hs rfl rfl rfl (Y_move rfl rfl) ?_; clear hf; intro a hf
            refine sY hf hs rfl rfl rfl (Y_add rfl rfl rfl) ?_; clear hf; intro a hf
            refine sY hf hs rfl rfl rfl (Y_assign rfl rfl) ?_; clear hf; intro a hf
            refine wpO_nil ?_
            refine wpL_nil (Ql_normal ?_)
            exact ⟨(IntKind.i64.wrap (x19 + 1)), hm30, (Fr.pick (Fr.pick (Fr.pick hf.none hf rfl) hf rfl) hf rfl), hs⟩
        · have hm30 := bif_f hm30 hb32
          refine wpL_exit (Ql_exit (Qb_exit ?_))
          exact ⟨Option.some.inj hm30, hf.none, hs⟩
    · rintro a w ⟨hr_, hf, hs⟩
      subst hr_
      try dsimp only at hm
      refine wpL_seq ?_
      refine wpL_region ?_
      refine sY hf hs rfl rfl rfl (Y_assign rfl rfl) ?_; clear hf; intro a hf
      refine wpO_nil ?_
      obtain rfl := Option.some.inj hm
      refine wpL_ret (ret_tmp rfl hf rfl ?_)
      exact ⟨_, rfl, rfl, hs⟩

set_option maxRecDepth 100000 in
theorem laws_eqEventGraph_ok (F : Nat) (p0_a : GEventGraph) (A_p0_a_1 : Option Addr) (n_p0_a_1 c_p0_a_1 : Nat) (hn_p0_a_1 : n_p0_a_1 = p0_a.Places.length) (p1_b : GEventGraph) (A_p1_b_1 : Option Addr) (n_p1_b_1 c_p1_b_1 : Nat) (hn_p1_b_1 : n_p1_b_1 = p1_b.Places.length) (r : Bool) (W : World) (hm : laws_eqEventGraph F p0_a p1_b = some r) (h_p0_a_1 : Rd W A_p0_a_1 ((recs GPlace.cells) p0_a.Places)) (h_p1_b_1 : Rd W A_p1_b_1 ((recs GPlace.cells) p1_b.Places)) :
    Calls Try.prog 28 [.agg #[.int .i64 p0_a.Events, .slice A_p0_a_1 n_p0_a_1 c_p0_a_1], .agg #[.int .i64 p1_b.Events, .slice A_p1_b_1 n_p1_b_1 c_p1_b_1]].toArray W fun e w' => ∃ v, e = .returned v ∧ v = .bool r ∧ St [] W w' [] := by
  subst hn_p0_a_1
  subst hn_p1_b_1
  unfold laws_eqEventGraph at hm
  refine Calls.enter (N := 16) Try.func28 rfl rfl rfl (fun a hf => ?_)
  have hs := St.start W
  obtain ⟨w, hw_⟩ : ∃ w, w = W := ⟨W, rfl⟩
  clear hw_ w
  refine wpL_seq ?_
  refine wpL_region ?_
  refine sBox hf hs rfl rfl rfl rfl rfl (cs := [.int .i64 p0_a.Events, .slice A_p0_a_1 p0_a.Places.length c_p0_a_1]) rfl ?_; clear hf hs; intro a w b1 hs hf
  have hs : St [] W w [.blk b1 39 [.int .i64 p0_a.Events, .slice A_p0_a_1 p0_a.Places.length c_p0_a_1]] := hs
  refine sBox hf hs rfl rfl rfl rfl rfl (cs := [.int .i64 p1_b.Events, .slice A_p1_b_1 p1_b.Places.length c_p1_b_1]) rfl ?_; clear hf hs; intro a w b2 hs hf
  have hs : St [] W w [.blk b1 39 [.int .i64 p0_a.Events, .slice A_p0_a_1 p0_a.Places.length c_p0_a_1], .blk b2 39 [.int .i64 p1_b.Events, .slice A_p1_b_1 p1_b.Places.length c_p1_b_1]] := hs
  refine sY hf hs rfl rfl rfl (Y_assign rfl rfl) ?_; clear hf; intro a hf
  refine wpO_nil ?_
  refine wpL_seq ?_
  refine wpL_seq ?_
  refine wpL_region ?_
  refine sY hf hs rfl rfl rfl (Y_fieldAddr rfl rfl fo39_0) ?_; clear hf; intro a hf
  refine sY hf hs rfl rfl rfl (Y_load_blk rfl rfl (i := 0) rfl rfl ag2) ?_; clear hf; intro a hf
  refine sY hf hs rfl rfl rfl (Y_fieldAddr rfl rfl fo39_0) ?_; clear hf; intro a hf
  refine sY hf hs rfl rfl rfl (Y_load_blk rfl rfl (i := 1) rfl rfl ag2) ?_; clear hf; intro a hf
  refine sY hf hs rfl rfl rfl (Y_neq rfl rfl rfl) ?_; clear hf; intro a hf
  refine wpO_nil ?_
  refine wpL_cond hf rfl (fun hb3 => ?_) (fun hb3 => ?_)
  · have hm := bif_t hm hb3
    refine wpL_seq ?_
    refine wpL_region ?_
    refine sY hf hs rfl rfl rfl (Y_assign rfl rfl) ?_; clear hf; intro a hf
    refine wpO_nil ?_
    obtain rfl := Option.some.inj hm
    refine wpL_ret (ret_tmp rfl hf rfl ?_)
    exact ⟨_, rfl, rfl, hs.sel [] (by decide)⟩
  · have hm := bif_f hm hb3
    refine wpL_skip ?_
    refine wpL_seq ?_
    refine wpL_seq ?_
    refine wpL_region ?_
    refine sY hf hs rfl rfl rfl (Y_fieldAddr rfl rfl fo39_1) ?_; clear hf; intro a hf
    refine sY hf hs rfl rfl rfl (Y_load_blk rfl rfl (i := 0) rfl rfl ag37) ?_; clear hf; intro a hf
    refine sY hf hs rfl rfl rfl (Y_fieldAddr rfl rfl fo39_1) ?_; clear hf; intro a hf
    refine sY hf hs rfl rfl rfl (Y_load_blk rfl rfl (i := 1) rfl rfl ag37) ?_; clear hf; intro a hf
    obtain ⟨r4, hc5, hm⟩ := bind_some hm
    refine sCall hf rfl rfl rfl rfl (cap := []) rfl rfl en84 (laws_eqPlaceS_ok F p0_a.Places A_p0_a_1 p0_a.Places.length c_p0_a_1 rfl p1_b.Places A_p1_b_1 p1_b.Places.length c_p1_b_1 rfl _ _ hc5 (h_p0_a_1.at hs) (h_p1_b_1.at hs)) ?_; clear hf
    rintro _ w ⟨rfl, hs1⟩ a hf
    have hs : St [] W w [.blk b1 39 [.int .i64 p0_a.Events, .slice A_p0_a_1 p0_a.Places.length c_p0_a_1], .blk b2 39 [.int .i64 p1_b.Events, .slice A_p1_b_1 p1_b.Places.length c_p1_b_1]] := hs.ext hs1.below
    clear hs1
    refine sY hf hs rfl rfl rfl (Y_not rfl rfl) ?_; clear hf; intro a hf
    refine wpO_nil ?_
    refine wpL_cond hf rfl (fun hb6 => ?_) (fun hb6 => ?_)
    · have hm := bif_t hm hb6
      refine wpL_seq ?_
      refine wpL_region ?_
      refine sY hf hs rfl rfl rfl (Y_assign rfl rfl) ?_; clear hf; intro a hf
      refine wpO_nil ?_
      obtain rfl := Option.some.inj hm
      refine wpL_ret (ret_tmp rfl hf rfl ?_)
      exact ⟨_, rfl, rfl, hs.sel [] (by decide)⟩
    · have hm := bif_f hm hb6
      refine wpL_skip ?_
      refine wpL_seq ?_
      refine wpL_region ?_
      refine sY hf hs rfl rfl rfl (Y_assign rfl rfl) ?_; clear hf; intro a hf
      refine wpO_nil ?_
      obtain rfl := Option.some.inj hm
      refine wpL_ret (ret_tmp rfl hf rfl ?_)
      exact ⟨_, rfl, rfl, hs.sel [] (by decide)⟩

set_option maxRecDepth 100000 in
theorem laws_eqInt64S_ok (F : Nat) (p0_a : List Int) (A_p0_a_1 : Option Addr) (n_p0_a_1 c_p0_a_1 : Nat) (hn_p0_a_1 : n_p0_a_1 = p0_a.length) (p1_b : List Int) (A_p1_b_1 : Option Addr) (n_p1_b_1 c_p1_b_1 : Nat) (hn_p1_b_1 : n_p1_b_1 = p1_b.length) (r : Bool) (W : World) (hm : laws_eqInt64S F p0_a p1_b = some r) (h_p0_a_1 : Rd W A_p0_a_1 (ints p0_a)) (h_p1_b_1 : Rd W A_p1_b_1 (ints p1_b)) :
    Calls Try.prog 19 [.slice A_p0_a_1 n_p0_a_1 c_p0_a_1, .slice A_p1_b_1 n_p1_b_1 c_p1_b_1].toArray W fun e w' => ∃ v, e = .returned v ∧ v = .bool r ∧ St [] W w' [] := by
  subst hn_p0_a_1
  subst hn_p1_b_1
  unfold laws_eqInt64S at hm
  refine Calls.enter (N := 26) Try.func19 rfl rfl rfl (fun a hf => ?_)
  have hs := St.start W
  obtain ⟨w, hw_⟩ : ∃ w, w = W := ⟨W, rfl⟩
  clear hw_ w
  refine wpL_seq ?_
  refine wpL_region ?_
  refine sY hf hs rfl rfl rfl (Y_assign rfl rfl) ?_; clear hf; intro a hf
  refine wpO_nil ?_
  refine wpL_seq ?_
  refine wpL_seq ?_
  refine wpL_region ?_
  refine sY hf hs rfl rfl rfl (Y_move rfl rfl) ?_; clear hf; intro a hf
  refine sY hf hs rfl rfl rfl (Y_lenH rfl rfl el23 rfl) ?_; clear hf; intro a hf
  refine sY hf hs rfl rfl rfl (Y_move rfl rfl) ?_; clear hf; intro a hf
  refine sY hf hs rfl rfl rfl (Y_lenH rfl rfl el23 rfl) ?_; clear hf; intro a hf
  refine sY hf hs rfl rfl rfl (Y_neq rfl rfl rfl) ?_; clear hf; intro a hf
  refine wpO_nil ?_
  refine wpL_cond hf rfl (fun hb1 => ?_) (fun hb1 => ?_)
  · have hm := bif_t hm hb1
    refine wpL_seq ?_
    refine wpL_region ?_
    refine sY hf hs rfl rfl rfl (Y_assign rfl rfl) ?_; clear hf; intro a hf
    refine wpO_nil ?_
    obtain rfl := Option.some.inj hm
    refine wpL_ret (ret_tmp rfl hf rfl ?_)
    exact ⟨_, rfl, rfl, hs⟩
  · have hm := bif_f hm hb1
    refine wpL_skip ?_
    refine wpL_seq ?_
    refine wpL_seq ?_
    refine wpL_region ?_
    refine sY hf hs rfl rfl rfl (Y_assign rfl rfl) ?_; clear hf; intro a hf
    refine wpO_nil ?_
    obtain ⟨r22, hl23, hm⟩ := bind_some hm
    refine wpL_block (fun a w => Sum.inr () = r22 ∧ Fr a 26 [] ∧ St [] W w []) ?_ ?_
    · refine wpL_loop (fun n a w => ∃ x15 : Int, laws_eqInt64S_L1 F p0_a p1_b n x15 = some r22 ∧ Fr a 26 [(0, .slice A_p0_a_1 p0_a.length c_p0_a_1), (1, .slice A_p1_b_1 p1_b.length c_p1_b_1), (5, .int .i64 x15)] ∧ St [] W w []) F ?_ ?_ ?_
      · exact ⟨0, hl23, (Fr.pick (Fr.pick (Fr.pick hf.none hf rfl) hf rfl) hf rfl), hs⟩
      · rintro a w ⟨x15, h0_, -, -⟩; simp [laws_eqInt64S_L1] at h0_
      · rintro n25 a w ⟨x15, hm24, hf, hs⟩
        rw [laws_eqInt64S_L1] at hm24
        refine wpL_seq ?_
        refine wpL_seq ?_
        refine wpL_region ?_
        refine sY hf hs rfl rfl rfl (Y_move rfl rfl) ?_; clear hf; intro a hf
        refine sY hf hs rfl rfl rfl (Y_move rfl rfl) ?_; clear hf; intro a hf
        refine sY hf hs rfl rfl rfl (Y_lenH rfl rfl el23 rfl) ?_; clear hf; intro a hf
        refine sY hf hs rfl rfl rfl (Y_lss rfl rfl rfl) ?_; clear hf; intro a hf
        refine wpO_nil ?_
        refine wpL_cond hf rfl (fun hb26 => ?_) (fun hb26 => ?_)
        · have hm24 := bif_t hm24 hb26
          refine wpL_skip ?_
          refine wpL_seq ?_
          refine wpL_block0 ?_
          refine wpL_seq ?_
          refine wpL_draw (by kernel_rfl) (by kernel_rfl) hs ?_
          refine qY hf rfl rfl rfl (Y_move rfl rfl) ?_; clear hf; intro a hf
          refine qY hf rfl rfl rfl (Y_move rfl rfl) ?_; clear hf; intro a hf
          obtain ⟨q27, hi28, hm24⟩ := bind_some hm24
          obtain ⟨hi28a, hi28b, hi28q⟩ := idx_some hi28
          refine qY hf rfl rfl rfl (Y_index rfl rfl rfl el23 ti2 (Rd.isAt (h_p0_a_1.at hs) (at1 (ints_at hi28q))) hi28a hi28b) ?_; clear hf; intro a hf
          refine qY hf rfl rfl rfl (Y_load_rd rfl rfl (fun w hs => h_p0_a_1.at hs) (at1 (ints_at hi28q)) ag2) ?_; clear hf; intro a hf
          refine qY hf rfl rfl rfl (Y_move rfl rfl) ?_; clear hf; intro a hf
          refine qY hf rfl rfl rfl (Y_move rfl rfl) ?_; clear hf; intro a hf
          obtain ⟨q29, hi30, hm24⟩ := bind_some hm24
          obtain ⟨hi30a, hi30b, hi30q⟩ := idx_some hi30
          refine qY hf rfl rfl rfl (Y_index rfl rfl rfl el23 ti2 (Rd.isAt (h_p1_b_1.at hs) (at1 (ints_at hi30q))) hi30a hi30b) ?_; clear hf; intro a hf
          refine qY hf rfl rfl rfl (Y_load_rd rfl rfl (fun w hs => h_p1_b_1.at hs) (at1 (ints_at hi30q)) ag2) ?_; clear hf; intro a hf
          refine qY hf rfl rfl rfl (Y_neq rfl rfl rfl) ?_; clear hf; intro a hf
          refine qNil ?_; clear hs; intro w hs
          refine wpL_cond hf rfl (fun hb31 => ?_) (fun hb31 => ?_)
          · have hm24 := bif_t hm24 hb31
            refine wpL_seq ?_
            refine wpL_region ?_
            refine sY hf hs rfl rfl rfl (Y_assign rfl rfl) ?_; clear hf; intro a hf
            refine wpO_nil ?_
            obtain rfl := Option.some.inj hm24
            try dsimp only at hm
            obtain rfl := Option.some.inj hm
            refine wpL_ret (Qb_ret (Ql_ret (Qb_ret (ret_tmp rfl hf rfl ?_))))
            exact ⟨_, rfl, rfl, hs⟩
          · have hm24 := bif_f hm24 hb31
            refine wpL_skip ?_
            refine wpL_nil (Qb_normal ?_)
            refine wpL_region ?_
            refine sY hf hs rfl rfl rfl (Y_move rfl rfl) ?_; clear hf; intro a hf
            refine sY hf hs rfl rfl rfl (Y_add rfl rfl rfl) ?_; clear hf; intro a hf
            refine sY hf hs rfl rfl rfl (Y_assign rfl rfl) ?_; clear hf; intro a hf
            refine wpO_nil ?_
            refine wpL_nil (Ql_normal ?_)
            exact ⟨(IntKind.i64.wrap (x15 + 1)), hm24, (Fr.pick (Fr.pick (Fr.pick hf.none hf rfl) hf rfl) hf rfl), hs⟩
        · have hm24 := bif_f hm24 hb26
          refine wpL_exit (Ql_exit (Qb_exit ?_))
          exact ⟨Option.some.inj hm24, hf.none, hs⟩
    · rintro a w ⟨hr_, hf, hs⟩
      subst hr_
      try dsimp only at hm
      refine wpL_seq ?_
      refine wpL_region ?_
      refine sY hf hs rfl rfl rfl (Y_assign rfl rfl) ?_; clear hf; intro a hf
      refine wpO_nil ?_
      obtain rfl := Option.some.inj hm
      refine wpL_ret (ret_tmp rfl hf rfl ?_)
      exact ⟨_, rfl, rfl, hs⟩

set_option maxRecDepth 100000 in
theorem laws_eqTimetable_ok (F : Nat) (p0_a : GTimetable) (A_p0_a_1 : Option Addr) (n_p0_a_1 c_p0_a_1 : Nat) (hn_p0_a_1 : n_p0_a_1 = p0_a.Starts.length) (p1_b : GTimetable) (A_p1_b_1 : Option Addr) (n_p1_b_1 c_p1_b_1 : Nat) (hn_p1_b_1 : n_p1_b_1 = p1_b.Starts.length) (r : Bool) (W : World) (hm : laws_eqTimetable F p0_a p1_b = some r) (h_p0_a_1 : Rd W A_p0_a_1 (ints p0_a.Starts)) (h_p1_b_1 : Rd W A_p1_b_1 (ints p1_b.Starts)) :
    Calls Try.prog 51 [.agg #[.int .i64 p0_a.Period, .slice A_p0_a_1 n_p0_a_1 c_p0_a_1], .agg #[.int .i64 p1_b.Period, .slice A_p1_b_1 n_p1_b_1 c_p1_b_1]].toArray W fun e w' => ∃ v, e = .returned v ∧ v = .bool r ∧ St [] W w' [] := by
  subst hn_p0_a_1
  subst hn_p1_b_1
  unfold laws_eqTimetable at hm
  refine Calls.enter (N := 16) Try.func51 rfl rfl rfl (fun a hf => ?_)
  have hs := St.start W
  obtain ⟨w, hw_⟩ : ∃ w, w = W := ⟨W, rfl⟩
  clear hw_ w
  refine wpL_seq ?_
  refine wpL_region ?_
  refine sBox hf hs rfl rfl rfl rfl rfl (cs := [.int .i64 p0_a.Period, .slice A_p0_a_1 p0_a.Starts.length c_p0_a_1]) rfl ?_; clear hf hs; intro a w b1 hs hf
  have hs : St [] W w [.blk b1 67 [.int .i64 p0_a.Period, .slice A_p0_a_1 p0_a.Starts.length c_p0_a_1]] := hs
  refine sBox hf hs rfl rfl rfl rfl rfl (cs := [.int .i64 p1_b.Period, .slice A_p1_b_1 p1_b.Starts.length c_p1_b_1]) rfl ?_; clear hf hs; intro a w b2 hs hf
  have hs : St [] W w [.blk b1 67 [.int .i64 p0_a.Period, .slice A_p0_a_1 p0_a.Starts.length c_p0_a_1], .blk b2 67 [.int .i64 p1_b.Period, .slice A_p1_b_1 p1_b.Starts.length c_p1_b_1]] := hs
  refine sY hf hs rfl rfl rfl (Y_assign rfl rfl) ?_; clear hf; intro a hf
  refine wpO_nil ?_
  refine wpL_seq ?_
  refine wpL_seq ?_
  refine wpL_region ?_
  refine sY hf hs rfl rfl rfl (Y_fieldAddr rfl rfl fo67_0) ?_; clear hf; intro a hf
  refine sY hf hs rfl rfl rfl (Y_load_blk rfl rfl (i := 0) rfl rfl ag2) ?_; clear hf; intro a hf
  refine sY hf hs rfl rfl rfl (Y_fieldAddr rfl rfl fo67_0) ?_; clear hf; intro a hf
  refine sY hf hs rfl rfl rfl (Y_load_blk rfl rfl (i := 1) rfl rfl ag2) ?_; clear hf; intro a hf
  refine sY hf hs rfl rfl rfl (Y_neq rfl rfl rfl) ?_; clear hf; intro a hf
  refine wpO_nil ?_
  refine wpL_cond hf rfl (fun hb3 => ?_) (fun hb3 => ?_)
  · have hm := bif_t hm hb3
    refine wpL_seq ?_
    refine wpL_region ?_
    refine sY hf hs rfl rfl rfl (Y_assign rfl rfl) ?_; clear hf; intro a hf
    refine wpO_nil ?_
    obtain rfl := Option.some.inj hm
    refine wpL_ret (ret_tmp rfl hf rfl ?_)
    exact ⟨_, rfl, rfl, hs.sel [] (by decide)⟩
  · have hm := bif_f hm hb3
    refine wpL_skip ?_
    refine wpL_seq ?_
    refine wpL_seq ?_
    refine wpL_region ?_
    refine sY hf hs rfl rfl rfl (Y_fieldAddr rfl rfl fo67_1) ?_; clear hf; intro a hf
    refine sY hf hs rfl rfl rfl (Y_load_blk rfl rfl (i := 0) rfl rfl ag23) ?_; clear hf; intro a hf
    refine sY hf hs rfl rfl rfl (Y_fieldAddr rfl rfl fo67_1) ?_; clear hf; intro a hf
    refine sY hf hs rfl rfl rfl (Y_load_blk rfl rfl (i := 1) rfl rfl ag23) ?_; clear hf; intro a hf
    obtain ⟨r4, hc5, hm⟩ := bind_some hm
    refine sCall hf rfl rfl rfl rfl (cap := []) rfl rfl en19 (laws_eqInt64S_ok F p0_a.Starts A_p0_a_1 p0_a.Starts.length c_p0_a_1 rfl p1_b.Starts A_p1_b_1 p1_b.Starts.length c_p1_b_1 rfl _ _ hc5 (h_p0_a_1.at hs) (h_p1_b_1.at hs)) ?_; clear hf
    rintro _ w ⟨rfl, hs1⟩ a hf
    have hs : St [] W w [.blk b1 67 [.int .i64 p0_a.Period, .slice A_p0_a_1 p0_a.Starts.length c_p0_a_1], .blk b2 67 [.int .i64 p1_b.Period, .slice A_p1_b_1 p1_b.Starts.length c_p1_b_1]] := hs.ext hs1.below
    clear hs1
    refine sY hf hs rfl rfl rfl (Y_not rfl rfl) ?_; clear hf; intro a hf
    refine wpO_nil ?_
    refine wpL_cond hf rfl (fun hb6 => ?_) (fun hb6 => ?_)
    · have hm := bif_t hm hb6
      refine wpL_seq ?_
      refine wpL_region ?_
      refine sY hf hs rfl rfl rfl (Y_assign rfl rfl) ?_; clear hf; intro a hf
      refine wpO_nil ?_
      obtain rfl := Option.some.inj hm
      refine wpL_ret (ret_tmp rfl hf rfl ?_)
      exact ⟨_, rfl, rfl, hs.sel [] (by decide)⟩
    · have hm := bif_f hm hb6
      refine wpL_skip ?_
      refine wpL_seq ?_
      refine wpL_region ?_
      refine sY hf hs rfl rfl rfl (Y_assign rfl rfl) ?_; clear hf; intro a hf
      refine wpO_nil ?_
      obtain rfl := Option.some.inj hm
      refine wpL_ret (ret_tmp rfl hf rfl ?_)
      exact ⟨_, rfl, rfl, hs.sel [] (by decide)⟩

set_option maxRecDepth 100000 in
theorem laws_FnExactTotalDelay_ok (F : Nat) (p0 : LEventGraph) (A_p0_1 : Option Addr) (n_p0_1 c_p0_1 : Nat) (hn_p0_1 : n_p0_1 = p0.Places.length) (p1 : LTimetable) (A_p1_1 : Option Addr) (n_p1_1 c_p1_1 : Nat) (hn_p1_1 : n_p1_1 = p1.Starts.length) (p2 : List Int) (A_p2_1 : Option Addr) (n_p2_1 c_p2_1 : Nat) (hn_p2_1 : n_p2_1 = p2.length) (r : Bool) (W : World) (hm : laws_FnExactTotalDelay F p0 p1 p2 = some r) (h_p0_1 : Rd W A_p0_1 ((recs LPlace.cells) p0.Places)) (h_p1_1 : Rd W A_p1_1 (ints p1.Starts)) (h_p2_1 : Rd W A_p2_1 (ints p2)) :
    Calls Try.prog 9 [.agg #[.int .i64 p0.Events, .slice A_p0_1 n_p0_1 c_p0_1], .agg #[.int .i64 p1.Period, .slice A_p1_1 n_p1_1 c_p1_1], .slice A_p2_1 n_p2_1 c_p2_1].toArray W fun e w' => ∃ v, e = .returned v ∧ v = .bool r ∧ St [] W w' [] := by
  subst hn_p0_1
  subst hn_p1_1
  subst hn_p2_1
  unfold laws_FnExactTotalDelay at hm
  refine Calls.enter (N := 74) Try.func9 rfl rfl rfl (fun a hf => ?_)
  have hs := St.start W
  obtain ⟨w, hw_⟩ : ∃ w, w = W := ⟨W, rfl⟩
  clear hw_ w
  refine wpL_seq ?_
  refine wpL_region ?_
  refine sBox hf hs rfl rfl rfl rfl rfl (cs := [.int .i64 p0.Events, .slice A_p0_1 p0.Places.length c_p0_1]) rfl ?_; clear hf hs; intro a w b1 hs hf
  have hs : St [] W w [.blk b1 35 [.int .i64 p0.Events, .slice A_p0_1 p0.Places.length c_p0_1]] := hs
  refine sBox hf hs rfl rfl rfl rfl rfl (cs := [.int .i64 p1.Period, .slice A_p1_1 p1.Starts.length c_p1_1]) rfl ?_; clear hf hs; intro a w b2 hs hf
  have hs : St [] W w [.blk b1 35 [.int .i64 p0.Events, .slice A_p0_1 p0.Places.length c_p0_1], .blk b2 63 [.int .i64 p1.Period, .slice A_p1_1 p1.Starts.length c_p1_1]] := hs
  refine sY hf hs rfl rfl rfl (Y_assign rfl rfl) ?_; clear hf; intro a hf
  refine wpO_nil ?_
  refine wpL_seq ?_
  refine wpL_seq ?_
  refine wpL_region ?_
  refine sY hf hs rfl rfl rfl (Y_move rfl rfl) ?_; clear hf; intro a hf
  refine sY hf hs rfl rfl rfl (Y_lenH rfl rfl el23 rfl) ?_; clear hf; intro a hf
  refine sY hf hs rfl rfl rfl (Y_gtr rfl rfl rfl) ?_; clear hf; intro a hf
  refine wpO_nil ?_
  refine wpL_cond hf rfl (fun hb3 => ?_) (fun hb3 => ?_)
  · have hm := bif_t hm hb3
    refine wpL_seq ?_
    refine wpL_region ?_
    refine sY hf hs rfl rfl rfl (Y_assign rfl rfl) ?_; clear hf; intro a hf
    refine wpO_nil ?_
    obtain rfl := Option.some.inj hm
    refine wpL_ret (ret_tmp rfl hf rfl ?_)
    exact ⟨_, rfl, rfl, hs.sel [] (by decide)⟩
  · have hm := bif_f hm hb3
    refine wpL_skip ?_
    refine wpL_seq ?_
    refine wpL_region ?_
    refine sY hf hs rfl rfl rfl (Y_assign rfl rfl) ?_; clear hf; intro a hf
    refine wpO_nil ?_
    refine wpL_seq ?_
    refine wpL_region ?_
    refine sY hf hs rfl rfl rfl (Y_load_blkS rfl rfl (i := 0) rfl ag35 ti35 rfl) ?_; clear hf; intro a hf
    refine sY hf hs rfl rfl rfl (Y_move rfl rfl) ?_; clear hf; intro a hf
    obtain ⟨r4, hc5, hm⟩ := bind_some hm
    refine sCall hf rfl rfl rfl rfl (cap := []) rfl rfl en24 (laws_szEventGraph_ok F p0 A_p0_1 p0.Places.length c_p0_1 rfl 1048576 _ _ hc5 (h_p0_1.at hs)) ?_; clear hf
    rintro _ w ⟨rfl, hs1⟩ a hf
    have hs : St [] W w [.blk b1 35 [.int .i64 p0.Events, .slice A_p0_1 p0.Places.length c_p0_1], .blk b2 63 [.int .i64 p1.Period, .slice A_p1_1 p1.Starts.length c_p1_1]] := hs.ext hs1.below
    clear hs1
    refine sY hf hs rfl rfl rfl (Y_assign rfl rfl) ?_; clear hf; intro a hf
    refine wpO_nil ?_
    refine wpL_seq ?_
    refine wpL_seq ?_
    refine wpL_region ?_
    refine sY hf hs rfl rfl rfl (Y_move rfl rfl) ?_; clear hf; intro a hf
    refine sY hf hs rfl rfl rfl (Y_lss rfl rfl rfl) ?_; clear hf; intro a hf
    refine wpO_nil ?_
    refine wpL_cond hf rfl (fun hb6 => ?_) (fun hb6 => ?_)
    · have hm := bif_t hm hb6
      refine wpL_seq ?_
      refine wpL_region ?_
      refine sY hf hs rfl rfl rfl (Y_assign rfl rfl) ?_; clear hf; intro a hf
      refine wpO_nil ?_
      obtain rfl := Option.some.inj hm
      refine wpL_ret (ret_tmp rfl hf rfl ?_)
      exact ⟨_, rfl, rfl, hs.sel [] (by decide)⟩
    · have hm := bif_f hm hb6
      refine wpL_skip ?_
      refine wpL_seq ?_
      refine wpL_region ?_
      refine sY hf hs rfl rfl rfl (Y_load_blkS rfl rfl (i := 1) rfl ag63 ti63 rfl) ?_; clear hf; intro a hf
      refine sY hf hs rfl rfl rfl (Y_move rfl rfl) ?_; clear hf; intro a hf
      obtain ⟨r7, hc8, hm⟩ := bind_some hm
      refine sCall hf rfl rfl rfl rfl (cap := []) rfl rfl en47 (laws_szTimetable_ok F p1 A_p1_1 p1.Starts.length c_p1_1 rfl r4 _ _ hc8 (h_p1_1.at hs)) ?_; clear hf
      rintro _ w ⟨rfl, hs1⟩ a hf
      have hs : St [] W w [.blk b1 35 [.int .i64 p0.Events, .slice A_p0_1 p0.Places.length c_p0_1], .blk b2 63 [.int .i64 p1.Period, .slice A_p1_1 p1.Starts.length c_p1_1]] := hs.ext hs1.below
      clear hs1
      refine sY hf hs rfl rfl rfl (Y_assign rfl rfl) ?_; clear hf; intro a hf
      refine wpO_nil ?_
      refine wpL_seq ?_
      refine wpL_seq ?_
      refine wpL_region ?_
      refine sY hf hs rfl rfl rfl (Y_move rfl rfl) ?_; clear hf; intro a hf
      refine sY hf hs rfl rfl rfl (Y_lss rfl rfl rfl) ?_; clear hf; intro a hf
      refine wpO_nil ?_
      refine wpL_cond hf rfl (fun hb9 => ?_) (fun hb9 => ?_)
      · have hm := bif_t hm hb9
        refine wpL_seq ?_
        refine wpL_region ?_
        refine sY hf hs rfl rfl rfl (Y_assign rfl rfl) ?_; clear hf; intro a hf
        refine wpO_nil ?_
        obtain rfl := Option.some.inj hm
        refine wpL_ret (ret_tmp rfl hf rfl ?_)
        exact ⟨_, rfl, rfl, hs.sel [] (by decide)⟩
      · have hm := bif_f hm hb9
        refine wpL_skip ?_
        refine wpL_seq ?_
        refine wpL_drawG [.blk b1 35 [.int .i64 p0.Events, .slice A_p0_1 p0.Places.length c_p0_1], .blk b2 63 [.int .i64 p1.Period, .slice A_p1_1 p1.Starts.length c_p1_1]] 12 (by kernel_rfl) hs ?_; clear hs; intro w hs
        have hs0 : St [] W w [.blk b1 35 [.int .i64 p0.Events, .slice A_p0_1 p0.Places.length c_p0_1], .blk b2 63 [.int .i64 p1.Period, .slice A_p1_1 p1.Starts.length c_p1_1]] := hs
        refine gY (i := 0) [] rfl (by kernel_rfl) (by kernel_rfl) hf hs0 rfl rfl rfl (Y_load_blkS rfl rfl (i := 0) rfl ag35 ti35 rfl) ?_; clear hf; intro a hf
        refine gY (i := 2) [] rfl (by kernel_rfl) (by kernel_rfl) hf hs0 rfl rfl rfl (Y_load_blkS rfl rfl (i := 1) rfl ag63 ti63 rfl) ?_; clear hf; intro a hf
        refine gY (i := 4) [] rfl (by kernel_rfl) (by kernel_rfl) hf hs0 rfl rfl rfl (Y_move rfl rfl) ?_; clear hf; intro a hf
        refine gRun (i := 1) rfl (by kernel_rfl) ?_
        obtain ⟨r30, hc31, hm⟩ := bind_some hm
        refine sCall hf rfl rfl rfl rfl (cap := []) rfl rfl en26 (laws_toEventGraph_ok F p0 A_p0_1 p0.Places.length c_p0_1 rfl _ _ hc31 (h_p0_1.at hs)) ?_; clear hf
        rintro _ w ⟨A32, n33, c34, rfl, hn35, hs1⟩ a hf
        have hs : St [] W w [.blk b1 35 [.int .i64 p0.Events, .slice A_p0_1 p0.Places.length c_p0_1], .blk b2 63 [.int .i64 p1.Period, .slice A_p1_1 p1.Starts.length c_p1_1], .row A32 n33 c34 96 4 ((recs GPlace.cells) r30.Places)] := hs.join hs1
        clear hs1
        have hs0 : St [] W w [.blk b1 35 [.int .i64 p0.Events, .slice A_p0_1 p0.Places.length c_p0_1], .blk b2 63 [.int .i64 p1.Period, .slice A_p1_1 p1.Starts.length c_p1_1]] := hs.sel [0, 1] (by decide)
        refine wpO_nil ⟨Or.inr hs0, ?_⟩
        refine gRun (i := 3) rfl (by kernel_rfl) ?_
        obtain ⟨r36, hc37, hm⟩ := bind_some hm
        refine sCall hf rfl rfl rfl rfl (cap := []) rfl rfl en49 (laws_toTimetable_ok F p1 A_p1_1 p1.Starts.length c_p1_1 rfl _ _ hc37 (h_p1_1.at hs)) ?_; clear hf
        rintro _ w ⟨A38, n39, c40, rfl, hn41, hs1⟩ a hf
        have hs : St [] W w [.blk b1 35 [.int .i64 p0.Events, .slice A_p0_1 p0.Places.length c_p0_1], .blk b2 63 [.int .i64 p1.Period, .slice A_p1_1 p1.Starts.length c_p1_1], .row A32 n33 c34 96 4 ((recs GPlace.cells) r30.Places), .row A38 n39 c40 2 1 (ints r36.Starts)] := hs.join hs1
        clear hs1
        have hs0 : St [] W w [.blk b1 35 [.int .i64 p0.Events, .slice A_p0_1 p0.Places.length c_p0_1], .blk b2 63 [.int .i64 p1.Period, .slice A_p1_1 p1.Starts.length c_p1_1]] := hs.sel [0, 1] (by decide)
        refine wpO_nil ⟨Or.inr hs0, ?_⟩
        refine gRun (i := 5) rfl (by kernel_rfl) ?_
        obtain ⟨r42, hc43, hm⟩ := bind_some hm
        refine sCall hf rfl rfl rfl rfl (cap := []) rfl rfl en17 (laws_toInt64S_ok F p2 A_p2_1 p2.length c_p2_1 rfl _ _ hc43 (h_p2_1.at hs)) ?_; clear hf
        rintro _ w ⟨A44, n45, c46, rfl, hn47, hs1⟩ a hf
        have hs : St [] W w [.blk b1 35 [.int .i64 p0.Events, .slice A_p0_1 p0.Places.length c_p0_1], .blk b2 63 [.int .i64 p1.Period, .slice A_p1_1 p1.Starts.length c_p1_1], .row A32 n33 c34 96 4 ((recs GPlace.cells) r30.Places), .row A38 n39 c40 2 1 (ints r36.Starts), .row A44 n45 c46 2 1 (ints r42)] := hs.join hs1
        clear hs1
        have hs0 : St [] W w [.blk b1 35 [.int .i64 p0.Events, .slice A_p0_1 p0.Places.length c_p0_1], .blk b2 63 [.int .i64 p1.Period, .slice A_p1_1 p1.Starts.length c_p1_1]] := hs.sel [0, 1] (by decide)
        refine wpO_nil ⟨Or.inr hs0, ?_⟩
        refine gRun (i := 6) rfl (by kernel_rfl) ?_
        obtain ⟨r48, hc49, hm⟩ := bind_some hm
        refine sCall hf rfl rfl rfl rfl (cap := []) rfl rfl en48 (spec_TotalDelay_ok F r30 A32 n33 c34 hn35 r36 A38 n39 c40 hn41 r42 A44 n45 c46 hn47 _ _ hc49 (hs.rd (i := 2) rfl) (hs.rd (i := 3) rfl) (hs.rd (i := 4) rfl)) ?_; clear hf
        rintro _ w ⟨rfl, hs1⟩ a hf
        have hs : St [] W w [.blk b1 35 [.int .i64 p0.Events, .slice A_p0_1 p0.Places.length c_p0_1], .blk b2 63 [.int .i64 p1.Period, .slice A_p1_1 p1.Starts.length c_p1_1], .row A32 n33 c34 96 4 ((recs GPlace.cells) r30.Places), .row A38 n39 c40 2 1 (ints r36.Starts), .row A44 n45 c46 2 1 (ints r42)] := hs.ext hs1.below
        clear hs1
        have hs0 : St [] W w [.blk b1 35 [.int .i64 p0.Events, .slice A_p0_1 p0.Places.length c_p0_1], .blk b2 63 [.int .i64 p1.Period, .slice A_p1_1 p1.Starts.length c_p1_1]] := hs.sel [0, 1] (by decide)
        refine wpO_nil ⟨Or.inr hs0, ?_⟩
        refine gY (i := 7) [] rfl (by kernel_rfl) (by kernel_rfl) hf hs0 rfl rfl rfl (Y_move rfl rfl) ?_; clear hf; intro a hf
        refine gY (i := 8) [] rfl (by kernel_rfl) (by kernel_rfl) hf hs0 rfl rfl rfl (Y_extract rfl rfl rfl) ?_; clear hf; intro a hf
        refine gY (i := 9) [] rfl (by kernel_rfl) (by kernel_rfl) hf hs0 rfl rfl rfl (Y_extract rfl rfl rfl) ?_; clear hf; intro a hf
        refine gY (i := 10) [] rfl (by kernel_rfl) (by kernel_rfl) hf hs0 rfl rfl rfl (Y_assign rfl rfl) ?_; clear hf; intro a hf
        refine gY (i := 11) [] rfl (by kernel_rfl) (by kernel_rfl) hf hs0 rfl rfl rfl (Y_assign rfl rfl) ?_; clear hf; intro a hf
        refine gDone (by kernel_rfl) ?_
        clear hs0
        refine wpL_seq ?_
        refine wpL_region ?_
        refine sY hf hs rfl rfl rfl (Y_load_blkS rfl rfl (i := 0) rfl ag35 ti35 rfl) ?_; clear hf; intro a hf
        obtain ⟨r50, hc51, hm⟩ := bind_some hm
        refine sCall hf rfl rfl rfl rfl (cap := []) rfl rfl en26 (laws_toEventGraph_ok F p0 A_p0_1 p0.Places.length c_p0_1 rfl _ _ hc51 (h_p0_1.at hs)) ?_; clear hf
        rintro _ w ⟨A52, n53, c54, rfl, hn55, hs1⟩ a hf
        have hs : St [] W w [.blk b1 35 [.int .i64 p0.Events, .slice A_p0_1 p0.Places.length c_p0_1], .blk b2 63 [.int .i64 p1.Period, .slice A_p1_1 p1.Starts.length c_p1_1], .row A32 n33 c34 96 4 ((recs GPlace.cells) r30.Places), .row A38 n39 c40 2 1 (ints r36.Starts), .row A44 n45 c46 2 1 (ints r42), .row A52 n53 c54 96 4 ((recs GPlace.cells) r50.Places)] := hs.join hs1
        clear hs1
        refine sAlloc hf hs rfl rfl rfl rfl ti39 ?_; clear hf hs; intro a w b56 hs hf
        have hs : St [] W w [.blk b1 35 [.int .i64 p0.Events, .slice A_p0_1 p0.Places.length c_p0_1], .blk b2 63 [.int .i64 p1.Period, .slice A_p1_1 p1.Starts.length c_p1_1], .row A32 n33 c34 96 4 ((recs GPlace.cells) r30.Places), .row A38 n39 c40 2 1 (ints r36.Starts), .row A44 n45 c46 2 1 (ints r42), .row A52 n53 c54 96 4 ((recs GPlace.cells) r50.Places), .blk b56 39 [.int .i64 0, .slice none 0 0]] := hs
        refine sStore (i := 6) (us := [.int .i64 r50.Events, .slice A52 n53 c54]) hf hs rfl rfl rfl rfl rfl rfl ti39 rfl rfl rfl (Nat.le_of_ble_eq_true rfl) rfl ?_; clear hs; intro w hs
        have hs : St [] W w [.blk b1 35 [.int .i64 p0.Events, .slice A_p0_1 p0.Places.length c_p0_1], .blk b2 63 [.int .i64 p1.Period, .slice A_p1_1 p1.Starts.length c_p1_1], .row A32 n33 c34 96 4 ((recs GPlace.cells) r30.Places), .row A38 n39 c40 2 1 (ints r36.Starts), .row A44 n45 c46 2 1 (ints r42), .row A52 n53 c54 96 4 ((recs GPlace.cells) r50.Places), .blk b56 39 [.int .i64 r50.Events, .slice A52 n53 c54]] := hs
        refine wpO_nil ?_
        refine wpL_seq ?_
        refine wpL_region ?_
        refine sY hf hs rfl rfl rfl (Y_load_blkS rfl rfl (i := 1) rfl ag63 ti63 rfl) ?_; clear hf; intro a hf
        obtain ⟨r57, hc58, hm⟩ := bind_some hm
        refine sCall hf rfl rfl rfl rfl (cap := []) rfl rfl en49 (laws_toTimetable_ok F p1 A_p1_1 p1.Starts.length c_p1_1 rfl _ _ hc58 (h_p1_1.at hs)) ?_; clear hf
        rintro _ w ⟨A59, n60, c61, rfl, hn62, hs1⟩ a hf
        have hs : St [] W w [.blk b1 35 [.int .i64 p0.Events, .slice A_p0_1 p0.Places.length c_p0_1], .blk b2 63 [.int .i64 p1.Period, .slice A_p1_1 p1.Starts.length c_p1_1], .row A32 n33 c34 96 4 ((recs GPlace.cells) r30.Places), .row A38 n39 c40 2 1 (ints r36.Starts), .row A44 n45 c46 2 1 (ints r42), .row A52 n53 c54 96 4 ((recs GPlace.cells) r50.Places), .blk b56 39 [.int .i64 r50.Events, .slice A52 n53 c54], .row A59 n60 c61 2 1 (ints r57.Starts)] := hs.join hs1
        clear hs1
        refine sAlloc hf hs rfl rfl rfl rfl ti67 ?_; clear hf hs; intro a w b63 hs hf
        have hs : St [] W w [.blk b1 35 [.int .i64 p0.Events, .slice A_p0_1 p0.Places.length c_p0_1], .blk b2 63 [.int .i64 p1.Period, .slice A_p1_1 p1.Starts.length c_p1_1], .row A32 n33 c34 96 4 ((recs GPlace.cells) r30.Places), .row A38 n39 c40 2 1 (ints r36.Starts), .row A44 n45 c46 2 1 (ints r42), .row A52 n53 c54 96 4 ((recs GPlace.cells) r50.Places), .blk b56 39 [.int .i64 r50.Events, .slice A52 n53 c54], .row A59 n60 c61 2 1 (ints r57.Starts), .blk b63 67 [.int .i64 0, .slice none 0 0]] := hs
        refine sStore (i := 8) (us := [.int .i64 r57.Period, .slice A59 n60 c61]) hf hs rfl rfl rfl rfl rfl rfl ti67 rfl rfl rfl (Nat.le_of_ble_eq_true rfl) rfl ?_; clear hs; intro w hs
        have hs : St [] W w [.blk b1 35 [.int .i64 p0.Events, .slice A_p0_1 p0.Places.length c_p0_1], .blk b2 63 [.int .i64 p1.Period, .slice A_p1_1 p1.Starts.length c_p1_1], .row A32 n33 c34 96 4 ((recs GPlace.cells) r30.Places), .row A38 n39 c40 2 1 (ints r36.Starts), .row A44 n45 c46 2 1 (ints r42), .row A52 n53 c54 96 4 ((recs GPlace.cells) r50.Places), .blk b56 39 [.int .i64 r50.Events, .slice A52 n53 c54], .row A59 n60 c61 2 1 (ints r57.Starts), .blk b63 67 [.int .i64 r57.Period, .slice A59 n60 c61]] := hs
        refine wpO_nil ?_
        refine wpL_seq ?_
        refine wpL_region ?_
        refine sY hf hs rfl rfl rfl (Y_move rfl rfl) ?_; clear hf; intro a hf
        obtain ⟨r64, hc65, hm⟩ := bind_some hm
        refine sCall hf rfl rfl rfl rfl (cap := []) rfl rfl en17 (laws_toInt64S_ok F p2 A_p2_1 p2.length c_p2_1 rfl _ _ hc65 (h_p2_1.at hs)) ?_; clear hf
        rintro _ w ⟨A66, n67, c68, rfl, hn69, hs1⟩ a hf
        have hs : St [] W w [.blk b1 35 [.int .i64 p0.Events, .slice A_p0_1 p0.Places.length c_p0_1], .blk b2 63 [.int .i64 p1.Period, .slice A_p1_1 p1.Starts.length c_p1_1], .row A32 n33 c34 96 4 ((recs GPlace.cells) r30.Places), .row A38 n39 c40 2 1 (ints r36.Starts), .row A44 n45 c46 2 1 (ints r42), .row A52 n53 c54 96 4 ((recs GPlace.cells) r50.Places), .blk b56 39 [.int .i64 r50.Events, .slice A52 n53 c54], .row A59 n60 c61 2 1 (ints r57.Starts), .blk b63 67 [.int .i64 r57.Period, .slice A59 n60 c61], .row A66 n67 c68 2 1 (ints r64)] := hs.join hs1
        clear hs1
        refine sY hf hs rfl rfl rfl (Y_assign rfl rfl) ?_; clear hf; intro a hf
        refine wpO_nil ?_
        refine wpL_seq ?_
        refine wpL_region ?_
        refine sY hf hs rfl rfl rfl (Y_load_blkS rfl rfl (i := 6) rfl ag39 ti39 rfl) ?_; clear hf; intro a hf
        refine sY hf hs rfl rfl rfl (Y_load_blkS rfl rfl (i := 8) rfl ag67 ti67 rfl) ?_; clear hf; intro a hf
        refine sY hf hs rfl rfl rfl (Y_move rfl rfl) ?_; clear hf; intro a hf
        obtain ⟨r70, hc71, hm⟩ := bind_some hm
        refine sCall hf rfl rfl rfl rfl (cap := []) rfl rfl en50 (impl_TotalDelay_ok F r50 A52 n53 c54 hn55 r57 A59 n60 c61 hn62 r64 A66 n67 c68 hn69 _ _ hc71 (hs.rd (i := 5) rfl) (hs.rd (i := 7) rfl) (hs.rd (i := 9) rfl)) ?_; clear hf
        rintro _ w ⟨rfl, hs1⟩ a hf
        have hs : St [] W w [.blk b1 35 [.int .i64 p0.Events, .slice A_p0_1 p0.Places.length c_p0_1], .blk b2 63 [.int .i64 p1.Period, .slice A_p1_1 p1.Starts.length c_p1_1], .row A32 n33 c34 96 4 ((recs GPlace.cells) r30.Places), .row A38 n39 c40 2 1 (ints r36.Starts), .row A44 n45 c46 2 1 (ints r42), .row A52 n53 c54 96 4 ((recs GPlace.cells) r50.Places), .blk b56 39 [.int .i64 r50.Events, .slice A52 n53 c54], .row A59 n60 c61 2 1 (ints r57.Starts), .blk b63 67 [.int .i64 r57.Period, .slice A59 n60 c61], .row A66 n67 c68 2 1 (ints r64)] := hs.ext hs1.below
        clear hs1
        refine sY hf hs rfl rfl rfl (Y_move rfl rfl) ?_; clear hf; intro a hf
        refine sY hf hs rfl rfl rfl (Y_extract rfl rfl rfl) ?_; clear hf; intro a hf
        refine sY hf hs rfl rfl rfl (Y_extract rfl rfl rfl) ?_; clear hf; intro a hf
        refine sY hf hs rfl rfl rfl (Y_assign rfl rfl) ?_; clear hf; intro a hf
        refine sY hf hs rfl rfl rfl (Y_assign rfl rfl) ?_; clear hf; intro a hf
        refine wpO_nil ?_
        refine wpL_seq ?_
        refine wpL_seq ?_
        obtain ⟨r74, hj75, hm⟩ := bind_some hm
        refine wpL_cut (fun a w => ∃ b73 : Bool, b73 = r74 ∧ Fr a 74 [(2, .slice A_p2_1 p2.length c_p2_1), (3, .pointer (some ⟨b1, 0, none⟩)), (4, .pointer (some ⟨b2, 0, none⟩)), (10, .pointer (some ⟨b56, 0, none⟩)), (11, .pointer (some ⟨b63, 0, none⟩)), (12, .slice A66 n67 c68), (58, .bool b73)] ∧ St [] W w [.blk b1 35 [.int .i64 p0.Events, .slice A_p0_1 p0.Places.length c_p0_1], .blk b2 63 [.int .i64 p1.Period, .slice A_p1_1 p1.Starts.length c_p1_1], .blk b56 39 [.int .i64 r50.Events, .slice A52 n53 c54], .row A52 n53 c54 96 4 ((recs GPlace.cells) r50.Places), .blk b63 67 [.int .i64 r57.Period, .slice A59 n60 c61], .row A59 n60 c61 2 1 (ints r57.Starts), .row A66 n67 c68 2 1 (ints r64)]) ?_ ?_
        · refine wpL_region ?_
          refine sY hf hs rfl rfl rfl (Y_move rfl rfl) ?_; clear hf; intro a hf
          refine sY hf hs rfl rfl rfl (Y_move rfl rfl) ?_; clear hf; intro a hf
          refine sY hf hs rfl rfl rfl (Y_neq rfl rfl rfl) ?_; clear hf; intro a hf
          refine sY hf hs rfl rfl rfl (Y_move rfl rfl) ?_; clear hf; intro a hf
          refine bsplit (r70.1 != r48.1) (fun hb76 => ?_) (fun hb76 => ?_)
          · have hj75 := bif_t hj75 hb76
            refine sNo hf rfl rfl rfl (congrArg (fun b => some (Value.bool b)) hb76) rfl rfl rfl ?_; clear hf; intro a hf
            refine sNo hf rfl rfl rfl (congrArg (fun b => some (Value.bool b)) hb76) rfl rfl rfl ?_; clear hf; intro a hf
            refine sNo hf rfl rfl rfl (congrArg (fun b => some (Value.bool b)) hb76) rfl rfl rfl ?_; clear hf; intro a hf
            refine sY hf hs rfl rfl rfl (Y_pickT rfl (congrArg (fun b => some (Value.bool b)) hb76) rfl) ?_; clear hf; intro a hf
            refine wpO_nil ?_
            refine wpL_nil (then_normal ?_)
            exact ⟨true, Option.some.inj hj75, (Fr.pick (Fr.pick (Fr.pick (Fr.pick (Fr.pick (Fr.pick (Fr.pick hf.none hf rfl) hf rfl) hf rfl) hf rfl) hf rfl) hf rfl) hf rfl), hs.sel [0, 1, 6, 5, 8, 7, 9] (by decide)⟩
          · have hj75 := bif_f hj75 hb76
            refine sYg hf hs rfl rfl rfl (congrArg (fun b => some (Value.bool b)) hb76) rfl rfl rfl (Y_move rfl rfl) ?_; clear hf; intro a hf
            refine sYg hf hs rfl rfl rfl (congrArg (fun b => some (Value.bool b)) hb76) rfl rfl rfl (Y_move rfl rfl) ?_; clear hf; intro a hf
            refine sYg hf hs rfl rfl rfl (congrArg (fun b => some (Value.bool b)) hb76) rfl rfl rfl (Y_neq rfl rfl rfl) ?_; clear hf; intro a hf
            refine sY hf hs rfl rfl rfl (Y_pickF rfl (congrArg (fun b => some (Value.bool b)) hb76) rfl) ?_; clear hf; intro a hf
            refine wpO_nil ?_
            refine wpL_nil (then_normal ?_)
            exact ⟨(r70.2 != r48.2), Option.some.inj hj75, (Fr.pick (Fr.pick (Fr.pick (Fr.pick (Fr.pick (Fr.pick (Fr.pick hf.none hf rfl) hf rfl) hf rfl) hf rfl) hf rfl) hf rfl) hf rfl), hs.sel [0, 1, 6, 5, 8, 7, 9] (by decide)⟩
        · rintro a w ⟨b73, hr_, hf, hs⟩
          subst hr_
          try dsimp only at hm
          refine wpL_cond hf rfl (fun hb77 => ?_) (fun hb77 => ?_)
          · have hm := bif_t hm hb77
            refine wpL_seq ?_
            refine wpL_region ?_
            refine sY hf hs rfl rfl rfl (Y_assign rfl rfl) ?_; clear hf; intro a hf
            refine wpO_nil ?_
            obtain rfl := Option.some.inj hm
            refine wpL_ret (ret_tmp rfl hf rfl ?_)
            exact ⟨_, rfl, rfl, hs.sel [] (by decide)⟩
          · have hm := bif_f hm hb77
            refine wpL_skip ?_
            refine wpL_seq ?_
            refine wpL_seq ?_
            refine wpL_drawG [.blk b1 35 [.int .i64 p0.Events, .slice A_p0_1 p0.Places.length c_p0_1], .blk b2 63 [.int .i64 p1.Period, .slice A_p1_1 p1.Starts.length c_p1_1], .blk b56 39 [.int .i64 r50.Events, .slice A52 n53 c54], .row A52 n53 c54 96 4 ((recs GPlace.cells) r50.Places), .blk b63 67 [.int .i64 r57.Period, .slice A59 n60 c61], .row A59 n60 c61 2 1 (ints r57.Starts), .row A66 n67 c68 2 1 (ints r64)] 5 (by kernel_rfl) hs ?_; clear hs; intro w hs
            have hs0 : St [] W w [.blk b1 35 [.int .i64 p0.Events, .slice A_p0_1 p0.Places.length c_p0_1], .blk b2 63 [.int .i64 p1.Period, .slice A_p1_1 p1.Starts.length c_p1_1], .blk b56 39 [.int .i64 r50.Events, .slice A52 n53 c54], .row A52 n53 c54 96 4 ((recs GPlace.cells) r50.Places), .blk b63 67 [.int .i64 r57.Period, .slice A59 n60 c61], .row A59 n60 c61 2 1 (ints r57.Starts), .row A66 n67 c68 2 1 (ints r64)] := hs
            refine gY (i := 0) [] rfl (by kernel_rfl) (by kernel_rfl) hf hs0 rfl rfl rfl (Y_load_blkS rfl rfl (i := 2) rfl ag39 ti39 rfl) ?_; clear hf; intro a hf
            refine gY (i := 1) [] rfl (by kernel_rfl) (by kernel_rfl) hf hs0 rfl rfl rfl (Y_load_blkS rfl rfl (i := 0) rfl ag35 ti35 rfl) ?_; clear hf; intro a hf
            refine gRun (i := 2) rfl (by kernel_rfl) ?_
            obtain ⟨r86, hc87, hm⟩ := bind_some hm
            refine sCall hf rfl rfl rfl rfl (cap := []) rfl rfl en26 (laws_toEventGraph_ok F p0 A_p0_1 p0.Places.length c_p0_1 rfl _ _ hc87 (h_p0_1.at hs)) ?_; clear hf
            rintro _ w ⟨A88, n89, c90, rfl, hn91, hs1⟩ a hf
            have hs : St [] W w [.blk b1 35 [.int .i64 p0.Events, .slice A_p0_1 p0.Places.length c_p0_1], .blk b2 63 [.int .i64 p1.Period, .slice A_p1_1 p1.Starts.length c_p1_1], .blk b56 39 [.int .i64 r50.Events, .slice A52 n53 c54], .row A52 n53 c54 96 4 ((recs GPlace.cells) r50.Places), .blk b63 67 [.int .i64 r57.Period, .slice A59 n60 c61], .row A59 n60 c61 2 1 (ints r57.Starts), .row A66 n67 c68 2 1 (ints r64), .row A88 n89 c90 96 4 ((recs GPlace.cells) r86.Places)] := hs.join hs1
            clear hs1
            have hs0 : St [] W w [.blk b1 35 [.int .i64 p0.Events, .slice A_p0_1 p0.Places.length c_p0_1], .blk b2 63 [.int .i64 p1.Period, .slice A_p1_1 p1.Starts.length c_p1_1], .blk b56 39 [.int .i64 r50.Events, .slice A52 n53 c54], .row A52 n53 c54 96 4 ((recs GPlace.cells) r50.Places), .blk b63 67 [.int .i64 r57.Period, .slice A59 n60 c61], .row A59 n60 c61 2 1 (ints r57.Starts), .row A66 n67 c68 2 1 (ints r64)] := hs.sel [0, 1, 2, 3, 4, 5, 6] (by decide)
            refine wpO_nil ⟨Or.inr hs0, ?_⟩
            refine gRun (i := 3) rfl (by kernel_rfl) ?_
            obtain ⟨r92, hc93, hm⟩ := bind_some hm
            refine sCall hf rfl rfl rfl rfl (cap := []) rfl rfl en28 (laws_eqEventGraph_ok F r50 A52 n53 c54 hn55 r86 A88 n89 c90 hn91 _ _ hc93 (hs.rd (i := 3) rfl) (hs.rd (i := 7) rfl)) ?_; clear hf
            rintro _ w ⟨rfl, hs1⟩ a hf
            have hs : St [] W w [.blk b1 35 [.int .i64 p0.Events, .slice A_p0_1 p0.Places.length c_p0_1], .blk b2 63 [.int .i64 p1.Period, .slice A_p1_1 p1.Starts.length c_p1_1], .blk b56 39 [.int .i64 r50.Events, .slice A52 n53 c54], .row A52 n53 c54 96 4 ((recs GPlace.cells) r50.Places), .blk b63 67 [.int .i64 r57.Period, .slice A59 n60 c61], .row A59 n60 c61 2 1 (ints r57.Starts), .row A66 n67 c68 2 1 (ints r64), .row A88 n89 c90 96 4 ((recs GPlace.cells) r86.Places)] := hs.ext hs1.below
            clear hs1
            have hs0 : St [] W w [.blk b1 35 [.int .i64 p0.Events, .slice A_p0_1 p0.Places.length c_p0_1], .blk b2 63 [.int .i64 p1.Period, .slice A_p1_1 p1.Starts.length c_p1_1], .blk b56 39 [.int .i64 r50.Events, .slice A52 n53 c54], .row A52 n53 c54 96 4 ((recs GPlace.cells) r50.Places), .blk b63 67 [.int .i64 r57.Period, .slice A59 n60 c61], .row A59 n60 c61 2 1 (ints r57.Starts), .row A66 n67 c68 2 1 (ints r64)] := hs.sel [0, 1, 2, 3, 4, 5, 6] (by decide)
            refine wpO_nil ⟨Or.inr hs0, ?_⟩
            refine gY (i := 4) [] rfl (by kernel_rfl) (by kernel_rfl) hf hs0 rfl rfl rfl (Y_not rfl rfl) ?_; clear hf; intro a hf
            refine gDone (by kernel_rfl) ?_
            clear hs0
            refine wpL_cond hf rfl (fun hb94 => ?_) (fun hb94 => ?_)
            · have hm := bif_t hm hb94
              refine wpL_seq ?_
              refine wpL_region ?_
              refine sY hf hs rfl rfl rfl (Y_assign rfl rfl) ?_; clear hf; intro a hf
              refine wpO_nil ?_
              obtain rfl := Option.some.inj hm
              refine wpL_ret (ret_tmp rfl hf rfl ?_)
              exact ⟨_, rfl, rfl, hs.sel [] (by decide)⟩
            · have hm := bif_f hm hb94
              refine wpL_skip ?_
              refine wpL_seq ?_
              refine wpL_seq ?_
              refine wpL_drawG [.blk b1 35 [.int .i64 p0.Events, .slice A_p0_1 p0.Places.length c_p0_1], .blk b2 63 [.int .i64 p1.Period, .slice A_p1_1 p1.Starts.length c_p1_1], .blk b56 39 [.int .i64 r50.Events, .slice A52 n53 c54], .row A52 n53 c54 96 4 ((recs GPlace.cells) r50.Places), .blk b63 67 [.int .i64 r57.Period, .slice A59 n60 c61], .row A59 n60 c61 2 1 (ints r57.Starts), .row A66 n67 c68 2 1 (ints r64), .row A88 n89 c90 96 4 ((recs GPlace.cells) r86.Places)] 5 (by kernel_rfl) hs ?_; clear hs; intro w hs
              have hs0 : St [] W w [.blk b1 35 [.int .i64 p0.Events, .slice A_p0_1 p0.Places.length c_p0_1], .blk b2 63 [.int .i64 p1.Period, .slice A_p1_1 p1.Starts.length c_p1_1], .blk b56 39 [.int .i64 r50.Events, .slice A52 n53 c54], .row A52 n53 c54 96 4 ((recs GPlace.cells) r50.Places), .blk b63 67 [.int .i64 r57.Period, .slice A59 n60 c61], .row A59 n60 c61 2 1 (ints r57.Starts), .row A66 n67 c68 2 1 (ints r64), .row A88 n89 c90 96 4 ((recs GPlace.cells) r86.Places)] := hs
              refine gY (i := 0) [] rfl (by kernel_rfl) (by kernel_rfl) hf hs0 rfl rfl rfl (Y_load_blkS rfl rfl (i := 4) rfl ag67 ti67 rfl) ?_; clear hf; intro a hf
              refine gY (i := 1) [] rfl (by kernel_rfl) (by kernel_rfl) hf hs0 rfl rfl rfl (Y_load_blkS rfl rfl (i := 1) rfl ag63 ti63 rfl) ?_; clear hf; intro a hf
              refine gRun (i := 2) rfl (by kernel_rfl) ?_
              obtain ⟨r103, hc104, hm⟩ := bind_some hm
              refine sCall hf rfl rfl rfl rfl (cap := []) rfl rfl en49 (laws_toTimetable_ok F p1 A_p1_1 p1.Starts.length c_p1_1 rfl _ _ hc104 (h_p1_1.at hs)) ?_; clear hf
              rintro _ w ⟨A105, n106, c107, rfl, hn108, hs1⟩ a hf
              have hs : St [] W w [.blk b1 35 [.int .i64 p0.Events, .slice A_p0_1 p0.Places.length c_p0_1], .blk b2 63 [.int .i64 p1.Period, .slice A_p1_1 p1.Starts.length c_p1_1], .blk b56 39 [.int .i64 r50.Events, .slice A52 n53 c54], .row A52 n53 c54 96 4 ((recs GPlace.cells) r50.Places), .blk b63 67 [.int .i64 r57.Period, .slice A59 n60 c61], .row A59 n60 c61 2 1 (ints r57.Starts), .row A66 n67 c68 2 1 (ints r64), .row A88 n89 c90 96 4 ((recs GPlace.cells) r86.Places), .row A105 n106 c107 2 1 (ints r103.Starts)] := hs.join hs1
              clear hs1
              have hs0 : St [] W w [.blk b1 35 [.int .i64 p0.Events, .slice A_p0_1 p0.Places.length c_p0_1], .blk b2 63 [.int .i64 p1.Period, .slice A_p1_1 p1.Starts.length c_p1_1], .blk b56 39 [.int .i64 r50.Events, .slice A52 n53 c54], .row A52 n53 c54 96 4 ((recs GPlace.cells) r50.Places), .blk b63 67 [.int .i64 r57.Period, .slice A59 n60 c61], .row A59 n60 c61 2 1 (ints r57.Starts), .row A66 n67 c68 2 1 (ints r64), .row A88 n89 c90 96 4 ((recs GPlace.cells) r86.Places)] := hs.sel [0, 1, 2, 3, 4, 5, 6, 7] (by decide)
              refine wpO_nil ⟨Or.inr hs0, ?_⟩
              refine gRun (i := 3) rfl (by kernel_rfl) ?_
              obtain ⟨r109, hc110, hm⟩ := bind_some hm
              refine sCall hf rfl rfl rfl rfl (cap := []) rfl rfl en51 (laws_eqTimetable_ok F r57 A59 n60 c61 hn62 r103 A105 n106 c107 hn108 _ _ hc110 (hs.rd (i := 5) rfl) (hs.rd (i := 8) rfl)) ?_; clear hf
              rintro _ w ⟨rfl, hs1⟩ a hf
              have hs : St [] W w [.blk b1 35 [.int .i64 p0.Events, .slice A_p0_1 p0.Places.length c_p0_1], .blk b2 63 [.int .i64 p1.Period, .slice A_p1_1 p1.Starts.length c_p1_1], .blk b56 39 [.int .i64 r50.Events, .slice A52 n53 c54], .row A52 n53 c54 96 4 ((recs GPlace.cells) r50.Places), .blk b63 67 [.int .i64 r57.Period, .slice A59 n60 c61], .row A59 n60 c61 2 1 (ints r57.Starts), .row A66 n67 c68 2 1 (ints r64), .row A88 n89 c90 96 4 ((recs GPlace.cells) r86.Places), .row A105 n106 c107 2 1 (ints r103.Starts)] := hs.ext hs1.below
              clear hs1
              have hs0 : St [] W w [.blk b1 35 [.int .i64 p0.Events, .slice A_p0_1 p0.Places.length c_p0_1], .blk b2 63 [.int .i64 p1.Period, .slice A_p1_1 p1.Starts.length c_p1_1], .blk b56 39 [.int .i64 r50.Events, .slice A52 n53 c54], .row A52 n53 c54 96 4 ((recs GPlace.cells) r50.Places), .blk b63 67 [.int .i64 r57.Period, .slice A59 n60 c61], .row A59 n60 c61 2 1 (ints r57.Starts), .row A66 n67 c68 2 1 (ints r64), .row A88 n89 c90 96 4 ((recs GPlace.cells) r86.Places)] := hs.sel [0, 1, 2, 3, 4, 5, 6, 7] (by decide)
              refine wpO_nil ⟨Or.inr hs0, ?_⟩
              refine gY (i := 4) [] rfl (by kernel_rfl) (by kernel_rfl) hf hs0 rfl rfl rfl (Y_not rfl rfl) ?_; clear hf; intro a hf
              refine gDone (by kernel_rfl) ?_
              clear hs0
              refine wpL_cond hf rfl (fun hb111 => ?_) (fun hb111 => ?_)
              · have hm := bif_t hm hb111
                refine wpL_seq ?_
                refine wpL_region ?_
                refine sY hf hs rfl rfl rfl (Y_assign rfl rfl) ?_; clear hf; intro a hf
                refine wpO_nil ?_
                obtain rfl := Option.some.inj hm
                refine wpL_ret (ret_tmp rfl hf rfl ?_)
                exact ⟨_, rfl, rfl, hs.sel [] (by decide)⟩
              · have hm := bif_f hm hb111
                refine wpL_skip ?_
                refine wpL_seq ?_
                refine wpL_seq ?_
                refine wpL_region ?_
                refine sY hf hs rfl rfl rfl (Y_move rfl rfl) ?_; clear hf; intro a hf
                refine sY hf hs rfl rfl rfl (Y_move rfl rfl) ?_; clear hf; intro a hf
                obtain ⟨r112, hc113, hm⟩ := bind_some hm
                refine sCall hf rfl rfl rfl rfl (cap := []) rfl rfl en17 (laws_toInt64S_ok F p2 A_p2_1 p2.length c_p2_1 rfl _ _ hc113 (h_p2_1.at hs)) ?_; clear hf
                rintro _ w ⟨A114, n115, c116, rfl, hn117, hs1⟩ a hf
                have hs : St [] W w [.blk b1 35 [.int .i64 p0.Events, .slice A_p0_1 p0.Places.length c_p0_1], .blk b2 63 [.int .i64 p1.Period, .slice A_p1_1 p1.Starts.length c_p1_1], .blk b56 39 [.int .i64 r50.Events, .slice A52 n53 c54], .row A52 n53 c54 96 4 ((recs GPlace.cells) r50.Places), .blk b63 67 [.int .i64 r57.Period, .slice A59 n60 c61], .row A59 n60 c61 2 1 (ints r57.Starts), .row A66 n67 c68 2 1 (ints r64), .row A88 n89 c90 96 4 ((recs GPlace.cells) r86.Places), .row A105 n106 c107 2 1 (ints r103.Starts), .row A114 n115 c116 2 1 (ints r112)] := hs.join hs1
                clear hs1
                obtain ⟨r118, hc119, hm⟩ := bind_some hm
                refine sCall hf rfl rfl rfl rfl (cap := []) rfl rfl en19 (laws_eqInt64S_ok F r64 A66 n67 c68 hn69 r112 A114 n115 c116 hn117 _ _ hc119 (hs.rd (i := 6) rfl) (hs.rd (i := 9) rfl)) ?_; clear hf
                rintro _ w ⟨rfl, hs1⟩ a hf
                have hs : St [] W w [.blk b1 35 [.int .i64 p0.Events, .slice A_p0_1 p0.Places.length c_p0_1], .blk b2 63 [.int .i64 p1.Period, .slice A_p1_1 p1.Starts.length c_p1_1], .blk b56 39 [.int .i64 r50.Events, .slice A52 n53 c54], .row A52 n53 c54 96 4 ((recs GPlace.cells) r50.Places), .blk b63 67 [.int .i64 r57.Period, .slice A59 n60 c61], .row A59 n60 c61 2 1 (ints r57.Starts), .row A66 n67 c68 2 1 (ints r64), .row A88 n89 c90 96 4 ((recs GPlace.cells) r86.Places), .row A105 n106 c107 2 1 (ints r103.Starts), .row A114 n115 c116 2 1 (ints r112)] := hs.ext hs1.below
                clear hs1
                refine sY hf hs rfl rfl rfl (Y_not rfl rfl) ?_; clear hf; intro a hf
                refine wpO_nil ?_
                refine wpL_cond hf rfl (fun hb120 => ?_) (fun hb120 => ?_)
                · have hm := bif_t hm hb120
                  refine wpL_seq ?_
                  refine wpL_region ?_
                  refine sY hf hs rfl rfl rfl (Y_assign rfl rfl) ?_; clear hf; intro a hf
                  refine wpO_nil ?_
                  obtain rfl := Option.some.inj hm
                  refine wpL_ret (ret_tmp rfl hf rfl ?_)
                  exact ⟨_, rfl, rfl, hs.sel [] (by decide)⟩
                · have hm := bif_f hm hb120
                  refine wpL_skip ?_
                  refine wpL_seq ?_
                  refine wpL_region ?_
                  refine sY hf hs rfl rfl rfl (Y_assign rfl rfl) ?_; clear hf; intro a hf
                  refine wpO_nil ?_
                  obtain rfl := Option.some.inj hm
                  refine wpL_ret (ret_tmp rfl hf rfl ?_)
                  exact ⟨_, rfl, rfl, hs.sel [] (by decide)⟩

end Go.Proofs.Ytpmebacdmilecaa
