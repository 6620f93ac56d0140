/- The functions do what their models say. -/
import Derived.Test.YthbcakdjdbfepaaWorstDelaysLifted3
import Derived.Test.YthbcakdjdbfepaaRows
namespace Go.Proofs.Ythbcakdjdbfepaa
open Go.RowKit

set_option maxRecDepth 100000 in
theorem laws_FnExactWorstDelays_ok (F : Nat) (p0 : LEventGraph) (A_p0_1 : Option Addr) (n_p0_1 c_p0_1 : Nat) (hn_p0_1 : n_p0_1 = p0.Places.length) (p1 : LTimetable) (A_p1_1 : Option Addr) (n_p1_1 c_p1_1 : Nat) (hn_p1_1 : n_p1_1 = p1.Starts.length) (p2 : List Int) (A_p2_1 : Option Addr) (n_p2_1 c_p2_1 : Nat) (hn_p2_1 : n_p2_1 = p2.length) (r : Bool) (W : World) (hm : laws_FnExactWorstDelays F p0 p1 p2 = some r) (h_p0_1 : Rd W A_p0_1 ((recs LPlace.cells) p0.Places)) (h_p1_1 : Rd W A_p1_1 (ints p1.Starts)) (h_p2_1 : Rd W A_p2_1 (ints p2)) :
    Calls Try.prog 7 [.agg #[.int .i64 p0.Events, .slice A_p0_1 n_p0_1 c_p0_1], .agg #[.int .i64 p1.Period, .slice A_p1_1 n_p1_1 c_p1_1], .slice A_p2_1 n_p2_1 c_p2_1].toArray W fun e w' => ∃ v, e = .returned v ∧ v = .bool r ∧ St [] W w' [] := by
  subst hn_p0_1
  subst hn_p1_1
  subst hn_p2_1
  unfold laws_FnExactWorstDelays at hm
  refine Calls.enter (N := 140) Try.func7 rfl rfl rfl (fun a hf => ?_)
  have hs := St.start W
  obtain ⟨w, hw_⟩ : ∃ w, w = W := ⟨W, rfl⟩
  clear hw_ w
  refine wpL_seq ?_
  refine wpL_region ?_
  refine sBox hf hs rfl rfl rfl rfl rfl (cs := [.int .i64 p0.Events, .slice A_p0_1 p0.Places.length c_p0_1]) rfl ?_; clear hf hs; intro a w b1 hs hf
  have hs : St [] W w [.blk b1 24 [.int .i64 p0.Events, .slice A_p0_1 p0.Places.length c_p0_1]] := hs
  refine sBox hf hs rfl rfl rfl rfl rfl (cs := [.int .i64 p1.Period, .slice A_p1_1 p1.Starts.length c_p1_1]) rfl ?_; clear hf hs; intro a w b2 hs hf
  have hs : St [] W w [.blk b1 24 [.int .i64 p0.Events, .slice A_p0_1 p0.Places.length c_p0_1], .blk b2 27 [.int .i64 p1.Period, .slice A_p1_1 p1.Starts.length c_p1_1]] := hs
  refine sY hf hs rfl rfl rfl (Y_assign rfl rfl) ?_; clear hf; intro a hf
  refine wpO_nil ?_
  refine wpL_seq ?_
  refine wpL_seq ?_
  refine wpL_region ?_
  refine sY hf hs rfl rfl rfl (Y_move rfl rfl) ?_; clear hf; intro a hf
  refine sY hf hs rfl rfl rfl (Y_lenH rfl rfl el25 rfl) ?_; clear hf; intro a hf
  refine sY hf hs rfl rfl rfl (Y_gtr rfl rfl rfl) ?_; clear hf; intro a hf
  refine wpO_nil ?_
  refine wpL_cond hf rfl (fun hb3 => ?_) (fun hb3 => ?_)
  · have hm := bif_t hm hb3
    refine wpL_seq ?_
    refine wpL_region ?_
    refine sY hf hs rfl rfl rfl (Y_assign rfl rfl) ?_; clear hf; intro a hf
    refine wpO_nil ?_
    obtain rfl := Option.some.inj hm
    refine wpL_ret (ret_tmp rfl hf rfl ?_)
    exact ⟨_, rfl, rfl, hs.sel [] (by decide)⟩
  · have hm := bif_f hm hb3
    refine wpL_skip ?_
    refine wpL_seq ?_
    refine wpL_region ?_
    refine sY hf hs rfl rfl rfl (Y_assign rfl rfl) ?_; clear hf; intro a hf
    refine wpO_nil ?_
    refine wpL_seq ?_
    refine wpL_region ?_
    refine sY hf hs rfl rfl rfl (Y_load_blkS rfl rfl (i := 0) rfl ag24 ti24 rfl) ?_; clear hf; intro a hf
    refine sY hf hs rfl rfl rfl (Y_move rfl rfl) ?_; clear hf; intro a hf
    obtain ⟨r4, hc5, hm⟩ := bind_some hm
    refine sCall hf rfl rfl rfl rfl (cap := []) rfl rfl en15 (laws_szEventGraph_ok F p0 A_p0_1 p0.Places.length c_p0_1 rfl 1048576 _ _ hc5 (h_p0_1.at hs)) ?_; clear hf
    rintro _ w ⟨rfl, hs1⟩ a hf
    have hs : St [] W w [.blk b1 24 [.int .i64 p0.Events, .slice A_p0_1 p0.Places.length c_p0_1], .blk b2 27 [.int .i64 p1.Period, .slice A_p1_1 p1.Starts.length c_p1_1]] := hs.ext hs1.below
    clear hs1
    refine sY hf hs rfl rfl rfl (Y_assign rfl rfl) ?_; clear hf; intro a hf
    refine wpO_nil ?_
    refine wpL_seq ?_
    refine wpL_seq ?_
    refine wpL_region ?_
    refine sY hf hs rfl rfl rfl (Y_move rfl rfl) ?_; clear hf; intro a hf
    refine sY hf hs rfl rfl rfl (Y_lss rfl rfl rfl) ?_; clear hf; intro a hf
    refine wpO_nil ?_
    refine wpL_cond hf rfl (fun hb6 => ?_) (fun hb6 => ?_)
    · have hm := bif_t hm hb6
      refine wpL_seq ?_
      refine wpL_region ?_
      refine sY hf hs rfl rfl rfl (Y_assign rfl rfl) ?_; clear hf; intro a hf
      refine wpO_nil ?_
      obtain rfl := Option.some.inj hm
      refine wpL_ret (ret_tmp rfl hf rfl ?_)
      exact ⟨_, rfl, rfl, hs.sel [] (by decide)⟩
    · have hm := bif_f hm hb6
      refine wpL_skip ?_
      refine wpL_seq ?_
      refine wpL_region ?_
      refine sY hf hs rfl rfl rfl (Y_load_blkS rfl rfl (i := 1) rfl ag27 ti27 rfl) ?_; clear hf; intro a hf
      refine sY hf hs rfl rfl rfl (Y_move rfl rfl) ?_; clear hf; intro a hf
      obtain ⟨r7, hc8, hm⟩ := bind_some hm
      refine sCall hf rfl rfl rfl rfl (cap := []) rfl rfl en16 (laws_szTimetable_ok F p1 A_p1_1 p1.Starts.length c_p1_1 rfl r4 _ _ hc8 (h_p1_1.at hs)) ?_; clear hf
      rintro _ w ⟨rfl, hs1⟩ a hf
      have hs : St [] W w [.blk b1 24 [.int .i64 p0.Events, .slice A_p0_1 p0.Places.length c_p0_1], .blk b2 27 [.int .i64 p1.Period, .slice A_p1_1 p1.Starts.length c_p1_1]] := hs.ext hs1.below
      clear hs1
      refine sY hf hs rfl rfl rfl (Y_assign rfl rfl) ?_; clear hf; intro a hf
      refine wpO_nil ?_
      refine wpL_seq ?_
      refine wpL_seq ?_
      refine wpL_region ?_
      refine sY hf hs rfl rfl rfl (Y_move rfl rfl) ?_; clear hf; intro a hf
      refine sY hf hs rfl rfl rfl (Y_lss rfl rfl rfl) ?_; clear hf; intro a hf
      refine wpO_nil ?_
      refine wpL_cond hf rfl (fun hb9 => ?_) (fun hb9 => ?_)
      · have hm := bif_t hm hb9
        refine wpL_seq ?_
        refine wpL_region ?_
        refine sY hf hs rfl rfl rfl (Y_assign rfl rfl) ?_; clear hf; intro a hf
        refine wpO_nil ?_
        obtain rfl := Option.some.inj hm
        refine wpL_ret (ret_tmp rfl hf rfl ?_)
        exact ⟨_, rfl, rfl, hs.sel [] (by decide)⟩
      · have hm := bif_f hm hb9
        refine wpL_skip ?_
        refine wpL_seq ?_
        refine wpL_drawG [.blk b1 24 [.int .i64 p0.Events, .slice A_p0_1 p0.Places.length c_p0_1], .blk b2 27 [.int .i64 p1.Period, .slice A_p1_1 p1.Starts.length c_p1_1]] 12 (by kernel_rfl) hs ?_; clear hs; intro w hs
        have hs0 : St [] W w [.blk b1 24 [.int .i64 p0.Events, .slice A_p0_1 p0.Places.length c_p0_1], .blk b2 27 [.int .i64 p1.Period, .slice A_p1_1 p1.Starts.length c_p1_1]] := hs
        refine gY (i := 0) [] rfl (by kernel_rfl) (by kernel_rfl) hf hs0 rfl rfl rfl (Y_load_blkS rfl rfl (i := 0) rfl ag24 ti24 rfl) ?_; clear hf; intro a hf
        refine gY (i := 2) [] rfl (by kernel_rfl) (by kernel_rfl) hf hs0 rfl rfl rfl (Y_load_blkS rfl rfl (i := 1) rfl ag27 ti27 rfl) ?_; clear hf; intro a hf
        refine gY (i := 4) [] rfl (by kernel_rfl) (by kernel_rfl) hf hs0 rfl rfl rfl (Y_move rfl rfl) ?_; clear hf; intro a hf
        refine gRun (i := 1) rfl (by kernel_rfl) ?_
        obtain ⟨r34, hc35, hm⟩ := bind_some hm
        refine sCall hf rfl rfl rfl rfl (cap := []) rfl rfl en18 (laws_toEventGraph_ok F p0 A_p0_1 p0.Places.length c_p0_1 rfl _ _ hc35 (h_p0_1.at hs)) ?_; clear hf
        rintro _ w ⟨A36, n37, c38, rfl, hn39, hs1⟩ a hf
        have hs : St [] W w [.blk b1 24 [.int .i64 p0.Events, .slice A_p0_1 p0.Places.length c_p0_1], .blk b2 27 [.int .i64 p1.Period, .slice A_p1_1 p1.Starts.length c_p1_1], .row A36 n37 c38 71 4 ((recs GPlace.cells) r34.Places)] := hs.join hs1
        clear hs1
        have hs0 : St [] W w [.blk b1 24 [.int .i64 p0.Events, .slice A_p0_1 p0.Places.length c_p0_1], .blk b2 27 [.int .i64 p1.Period, .slice A_p1_1 p1.Starts.length c_p1_1]] := hs.sel [0, 1] (by decide)
        refine wpO_nil ⟨Or.inr hs0, ?_⟩
        refine gRun (i := 3) rfl (by kernel_rfl) ?_
        obtain ⟨r40, hc41, hm⟩ := bind_some hm
        refine sCall hf rfl rfl rfl rfl (cap := []) rfl rfl en19 (laws_toTimetable_ok F p1 A_p1_1 p1.Starts.length c_p1_1 rfl _ _ hc41 (h_p1_1.at hs)) ?_; clear hf
        rintro _ w ⟨A42, n43, c44, rfl, hn45, hs1⟩ a hf
        have hs : St [] W w [.blk b1 24 [.int .i64 p0.Events, .slice A_p0_1 p0.Places.length c_p0_1], .blk b2 27 [.int .i64 p1.Period, .slice A_p1_1 p1.Starts.length c_p1_1], .row A36 n37 c38 71 4 ((recs GPlace.cells) r34.Places), .row A42 n43 c44 2 1 (ints r40.Starts)] := hs.join hs1
        clear hs1
        have hs0 : St [] W w [.blk b1 24 [.int .i64 p0.Events, .slice A_p0_1 p0.Places.length c_p0_1], .blk b2 27 [.int .i64 p1.Period, .slice A_p1_1 p1.Starts.length c_p1_1]] := hs.sel [0, 1] (by decide)
        refine wpO_nil ⟨Or.inr hs0, ?_⟩
        refine gRun (i := 5) rfl (by kernel_rfl) ?_
        obtain ⟨r46, hc47, hm⟩ := bind_some hm
        refine sCall hf rfl rfl rfl rfl (cap := []) rfl rfl en32 (laws_toInt64S_ok F p2 A_p2_1 p2.length c_p2_1 rfl _ _ hc47 (h_p2_1.at hs)) ?_; clear hf
        rintro _ w ⟨A48, n49, c50, rfl, hn51, hs1⟩ a hf
        have hs : St [] W w [.blk b1 24 [.int .i64 p0.Events, .slice A_p0_1 p0.Places.length c_p0_1], .blk b2 27 [.int .i64 p1.Period, .slice A_p1_1 p1.Starts.length c_p1_1], .row A36 n37 c38 71 4 ((recs GPlace.cells) r34.Places), .row A42 n43 c44 2 1 (ints r40.Starts), .row A48 n49 c50 2 1 (ints r46)] := hs.join hs1
        clear hs1
        have hs0 : St [] W w [.blk b1 24 [.int .i64 p0.Events, .slice A_p0_1 p0.Places.length c_p0_1], .blk b2 27 [.int .i64 p1.Period, .slice A_p1_1 p1.Starts.length c_p1_1]] := hs.sel [0, 1] (by decide)
        refine wpO_nil ⟨Or.inr hs0, ?_⟩
        refine gRun (i := 6) rfl (by kernel_rfl) ?_
        obtain ⟨r52, hc53, hm⟩ := bind_some hm
        refine sCall hf rfl rfl rfl rfl (cap := []) rfl rfl en39 (spec_WorstDelays_ok F r34 A36 n37 c38 hn39 r40 A42 n43 c44 hn45 r46 A48 n49 c50 hn51 _ _ hc53 (hs.rd (i := 2) rfl) (hs.rd (i := 3) rfl) (hs.rd (i := 4) rfl)) ?_; clear hf
        rintro _ w ⟨A54, n55, c56, rfl, hn57, hs1⟩ a hf
        have hs : St [] W w [.blk b1 24 [.int .i64 p0.Events, .slice A_p0_1 p0.Places.length c_p0_1], .blk b2 27 [.int .i64 p1.Period, .slice A_p1_1 p1.Starts.length c_p1_1], .row A36 n37 c38 71 4 ((recs GPlace.cells) r34.Places), .row A42 n43 c44 2 1 (ints r40.Starts), .row A48 n49 c50 2 1 (ints r46), .row A54 n55 c56 2 1 (ints r52.1)] := hs.join hs1
        clear hs1
        have hs0 : St [] W w [.blk b1 24 [.int .i64 p0.Events, .slice A_p0_1 p0.Places.length c_p0_1], .blk b2 27 [.int .i64 p1.Period, .slice A_p1_1 p1.Starts.length c_p1_1]] := hs.sel [0, 1] (by decide)
        refine wpO_nil ⟨Or.inr hs0, ?_⟩
        refine gY (i := 7) [] rfl (by kernel_rfl) (by kernel_rfl) hf hs0 rfl rfl rfl (Y_move rfl rfl) ?_; clear hf; intro a hf
        refine gY (i := 8) [] rfl (by kernel_rfl) (by kernel_rfl) hf hs0 rfl rfl rfl (Y_extract rfl rfl rfl) ?_; clear hf; intro a hf
        refine gY (i := 9) [] rfl (by kernel_rfl) (by kernel_rfl) hf hs0 rfl rfl rfl (Y_extract rfl rfl rfl) ?_; clear hf; intro a hf
        refine gY (i := 10) [] rfl (by kernel_rfl) (by kernel_rfl) hf hs0 rfl rfl rfl (Y_assign rfl rfl) ?_; clear hf; intro a hf
        refine gY (i := 11) [] rfl (by kernel_rfl) (by kernel_rfl) hf hs0 rfl rfl rfl (Y_assign rfl rfl) ?_; clear hf; intro a hf
        refine gDone (by kernel_rfl) ?_
        clear hs0
        refine wpL_seq ?_
        refine wpL_region ?_
        refine sY hf hs rfl rfl rfl (Y_load_blkS rfl rfl (i := 0) rfl ag24 ti24 rfl) ?_; clear hf; intro a hf
        obtain ⟨r58, hc59, hm⟩ := bind_some hm
        refine sCall hf rfl rfl rfl rfl (cap := []) rfl rfl en18 (laws_toEventGraph_ok F p0 A_p0_1 p0.Places.length c_p0_1 rfl _ _ hc59 (h_p0_1.at hs)) ?_; clear hf
        rintro _ w ⟨A60, n61, c62, rfl, hn63, hs1⟩ a hf
        have hs : St [] W w [.blk b1 24 [.int .i64 p0.Events, .slice A_p0_1 p0.Places.length c_p0_1], .blk b2 27 [.int .i64 p1.Period, .slice A_p1_1 p1.Starts.length c_p1_1], .row A36 n37 c38 71 4 ((recs GPlace.cells) r34.Places), .row A42 n43 c44 2 1 (ints r40.Starts), .row A48 n49 c50 2 1 (ints r46), .row A54 n55 c56 2 1 (ints r52.1), .row A60 n61 c62 71 4 ((recs GPlace.cells) r58.Places)] := hs.join hs1
        clear hs1
        refine sAlloc hf hs rfl rfl rfl rfl ti34 ?_; clear hf hs; intro a w b64 hs hf
        have hs : St [] W w [.blk b1 24 [.int .i64 p0.Events, .slice A_p0_1 p0.Places.length c_p0_1], .blk b2 27 [.int .i64 p1.Period, .slice A_p1_1 p1.Starts.length c_p1_1], .row A36 n37 c38 71 4 ((recs GPlace.cells) r34.Places), .row A42 n43 c44 2 1 (ints r40.Starts), .row A48 n49 c50 2 1 (ints r46), .row A54 n55 c56 2 1 (ints r52.1), .row A60 n61 c62 71 4 ((recs GPlace.cells) r58.Places), .blk b64 34 [.int .i64 0, .slice none 0 0]] := hs
        refine sStore (i := 7) (us := [.int .i64 r58.Events, .slice A60 n61 c62]) hf hs rfl rfl rfl rfl rfl rfl ti34 rfl rfl rfl (Nat.le_of_ble_eq_true rfl) rfl ?_; clear hs; intro w hs
        have hs : St [] W w [.blk b1 24 [.int .i64 p0.Events, .slice A_p0_1 p0.Places.length c_p0_1], .blk b2 27 [.int .i64 p1.Period, .slice A_p1_1 p1.Starts.length c_p1_1], .row A36 n37 c38 71 4 ((recs GPlace.cells) r34.Places), .row A42 n43 c44 2 1 (ints r40.Starts), .row A48 n49 c50 2 1 (ints r46), .row A54 n55 c56 2 1 (ints r52.1), .row A60 n61 c62 71 4 ((recs GPlace.cells) r58.Places), .blk b64 34 [.int .i64 r58.Events, .slice A60 n61 c62]] := hs
        refine wpO_nil ?_
        refine wpL_seq ?_
        refine wpL_region ?_
        refine sY hf hs rfl rfl rfl (Y_load_blkS rfl rfl (i := 1) rfl ag27 ti27 rfl) ?_; clear hf; intro a hf
        obtain ⟨r65, hc66, hm⟩ := bind_some hm
        refine sCall hf rfl rfl rfl rfl (cap := []) rfl rfl en19 (laws_toTimetable_ok F p1 A_p1_1 p1.Starts.length c_p1_1 rfl _ _ hc66 (h_p1_1.at hs)) ?_; clear hf
        rintro _ w ⟨A67, n68, c69, rfl, hn70, hs1⟩ a hf
        have hs : St [] W w [.blk b1 24 [.int .i64 p0.Events, .slice A_p0_1 p0.Places.length c_p0_1], .blk b2 27 [.int .i64 p1.Period, .slice A_p1_1 p1.Starts.length c_p1_1], .row A36 n37 c38 71 4 ((recs GPlace.cells) r34.Places), .row A42 n43 c44 2 1 (ints r40.Starts), .row A48 n49 c50 2 1 (ints r46), .row A54 n55 c56 2 1 (ints r52.1), .row A60 n61 c62 71 4 ((recs GPlace.cells) r58.Places), .blk b64 34 [.int .i64 r58.Events, .slice A60 n61 c62], .row A67 n68 c69 2 1 (ints r65.Starts)] := hs.join hs1
        clear hs1
        refine sAlloc hf hs rfl rfl rfl rfl ti36 ?_; clear hf hs; intro a w b71 hs hf
        have hs : St [] W w [.blk b1 24 [.int .i64 p0.Events, .slice A_p0_1 p0.Places.length c_p0_1], .blk b2 27 [.int .i64 p1.Period, .slice A_p1_1 p1.Starts.length c_p1_1], .row A36 n37 c38 71 4 ((recs GPlace.cells) r34.Places), .row A42 n43 c44 2 1 (ints r40.Starts), .row A48 n49 c50 2 1 (ints r46), .row A54 n55 c56 2 1 (ints r52.1), .row A60 n61 c62 71 4 ((recs GPlace.cells) r58.Places), .blk b64 34 [.int .i64 r58.Events, .slice A60 n61 c62], .row A67 n68 c69 2 1 (ints r65.Starts), .blk b71 36 [.int .i64 0, .slice none 0 0]] := hs
        refine sStore (i := 9) (us := [.int .i64 r65.Period, .slice A67 n68 c69]) hf hs rfl rfl rfl rfl rfl rfl ti36 rfl rfl rfl (Nat.le_of_ble_eq_true rfl) rfl ?_; clear hs; intro w hs
        have hs : St [] W w [.blk b1 24 [.int .i64 p0.Events, .slice A_p0_1 p0.Places.length c_p0_1], .blk b2 27 [.int .i64 p1.Period, .slice A_p1_1 p1.Starts.length c_p1_1], .row A36 n37 c38 71 4 ((recs GPlace.cells) r34.Places), .row A42 n43 c44 2 1 (ints r40.Starts), .row A48 n49 c50 2 1 (ints r46), .row A54 n55 c56 2 1 (ints r52.1), .row A60 n61 c62 71 4 ((recs GPlace.cells) r58.Places), .blk b64 34 [.int .i64 r58.Events, .slice A60 n61 c62], .row A67 n68 c69 2 1 (ints r65.Starts), .blk b71 36 [.int .i64 r65.Period, .slice A67 n68 c69]] := hs
        refine wpO_nil ?_
        refine wpL_seq ?_
        refine wpL_region ?_
        refine sY hf hs rfl rfl rfl (Y_move rfl rfl) ?_; clear hf; intro a hf
        obtain ⟨r72, hc73, hm⟩ := bind_some hm
        refine sCall hf rfl rfl rfl rfl (cap := []) rfl rfl en32 (laws_toInt64S_ok F p2 A_p2_1 p2.length c_p2_1 rfl _ _ hc73 (h_p2_1.at hs)) ?_; clear hf
        rintro _ w ⟨A74, n75, c76, rfl, hn77, hs1⟩ a hf
        have hs : St [] W w [.blk b1 24 [.int .i64 p0.Events, .slice A_p0_1 p0.Places.length c_p0_1], .blk b2 27 [.int .i64 p1.Period, .slice A_p1_1 p1.Starts.length c_p1_1], .row A36 n37 c38 71 4 ((recs GPlace.cells) r34.Places), .row A42 n43 c44 2 1 (ints r40.Starts), .row A48 n49 c50 2 1 (ints r46), .row A54 n55 c56 2 1 (ints r52.1), .row A60 n61 c62 71 4 ((recs GPlace.cells) r58.Places), .blk b64 34 [.int .i64 r58.Events, .slice A60 n61 c62], .row A67 n68 c69 2 1 (ints r65.Starts), .blk b71 36 [.int .i64 r65.Period, .slice A67 n68 c69], .row A74 n75 c76 2 1 (ints r72)] := hs.join hs1
        clear hs1
        refine sY hf hs rfl rfl rfl (Y_assign rfl rfl) ?_; clear hf; intro a hf
        refine wpO_nil ?_
        refine wpL_seq ?_
        refine wpL_region ?_
        refine sY hf hs rfl rfl rfl (Y_load_blkS rfl rfl (i := 7) rfl ag34 ti34 rfl) ?_; clear hf; intro a hf
        refine sY hf hs rfl rfl rfl (Y_load_blkS rfl rfl (i := 9) rfl ag36 ti36 rfl) ?_; clear hf; intro a hf
        refine sY hf hs rfl rfl rfl (Y_move rfl rfl) ?_; clear hf; intro a hf
        obtain ⟨r78, hc79, hm⟩ := bind_some hm
        refine sCall hf rfl rfl rfl rfl (cap := []) rfl rfl en40 (impl_WorstDelays_ok F r58 A60 n61 c62 hn63 r65 A67 n68 c69 hn70 r72 A74 n75 c76 hn77 _ _ hc79 (hs.rd (i := 6) rfl) (hs.rd (i := 8) rfl) (hs.rd (i := 10) rfl)) ?_; clear hf
        rintro _ w ⟨A80, n81, c82, rfl, hn83, hs1⟩ a hf
        have hs : St [] W w [.blk b1 24 [.int .i64 p0.Events, .slice A_p0_1 p0.Places.length c_p0_1], .blk b2 27 [.int .i64 p1.Period, .slice A_p1_1 p1.Starts.length c_p1_1], .row A36 n37 c38 71 4 ((recs GPlace.cells) r34.Places), .row A42 n43 c44 2 1 (ints r40.Starts), .row A48 n49 c50 2 1 (ints r46), .row A54 n55 c56 2 1 (ints r52.1), .row A60 n61 c62 71 4 ((recs GPlace.cells) r58.Places), .blk b64 34 [.int .i64 r58.Events, .slice A60 n61 c62], .row A67 n68 c69 2 1 (ints r65.Starts), .blk b71 36 [.int .i64 r65.Period, .slice A67 n68 c69], .row A74 n75 c76 2 1 (ints r72), .row A80 n81 c82 2 1 (ints r78.1)] := hs.join hs1
        clear hs1
        refine sY hf hs rfl rfl rfl (Y_move rfl rfl) ?_; clear hf; intro a hf
        refine sY hf hs rfl rfl rfl (Y_extract rfl rfl rfl) ?_; clear hf; intro a hf
        refine sY hf hs rfl rfl rfl (Y_extract rfl rfl rfl) ?_; clear hf; intro a hf
        refine sY hf hs rfl rfl rfl (Y_assign rfl rfl) ?_; clear hf; intro a hf
        refine sY hf hs rfl rfl rfl (Y_assign rfl rfl) ?_; clear hf; intro a hf
        refine wpO_nil ?_
        refine wpL_seq ?_
        refine wpL_seq ?_
        obtain ⟨r88, hj89, hm⟩ := bind_some hm
        refine wpL_cut (fun a w => ∃ b87 : Bool, b87 = r88 ∧ Fr a 140 [(2, .slice A_p2_1 p2.length c_p2_1), (3, .pointer (some ⟨b1, 0, none⟩)), (4, .pointer (some ⟨b2, 0, none⟩)), (8, .slice A54 n55 c56), (9, .int .i64 r52.2), (10, .pointer (some ⟨b64, 0, none⟩)), (11, .pointer (some ⟨b71, 0, none⟩)), (12, .slice A74 n75 c76), (13, .slice A80 n81 c82), (14, .int .i64 r78.2), (64, .bool b87)] ∧ St [] W w [.blk b1 24 [.int .i64 p0.Events, .slice A_p0_1 p0.Places.length c_p0_1], .blk b2 27 [.int .i64 p1.Period, .slice A_p1_1 p1.Starts.length c_p1_1], .row A54 n55 c56 2 1 (ints r52.1), .blk b64 34 [.int .i64 r58.Events, .slice A60 n61 c62], .row A60 n61 c62 71 4 ((recs GPlace.cells) r58.Places), .blk b71 36 [.int .i64 r65.Period, .slice A67 n68 c69], .row A67 n68 c69 2 1 (ints r65.Starts), .row A74 n75 c76 2 1 (ints r72), .row A80 n81 c82 2 1 (ints r78.1)]) ?_ ?_
        · refine wpL_region ?_
          refine sY hf hs rfl rfl rfl (Y_move rfl rfl) ?_; clear hf; intro a hf
          refine sY hf hs rfl rfl rfl (Y_move rfl rfl) ?_; clear hf; intro a hf
          obtain ⟨r90, hc91, hj89⟩ := bind_some hj89
          refine sCall hf rfl rfl rfl rfl (cap := []) rfl rfl en34 (laws_eqInt64S_ok F r78.1 A80 n81 c82 hn83 r52.1 A54 n55 c56 hn57 _ _ hc91 (hs.rd (i := 11) rfl) (hs.rd (i := 5) rfl)) ?_; clear hf
          rintro _ w ⟨rfl, hs1⟩ a hf
          have hs : St [] W w [.blk b1 24 [.int .i64 p0.Events, .slice A_p0_1 p0.Places.length c_p0_1], .blk b2 27 [.int .i64 p1.Period, .slice A_p1_1 p1.Starts.length c_p1_1], .row A36 n37 c38 71 4 ((recs GPlace.cells) r34.Places), .row A42 n43 c44 2 1 (ints r40.Starts), .row A48 n49 c50 2 1 (ints r46), .row A54 n55 c56 2 1 (ints r52.1), .row A60 n61 c62 71 4 ((recs GPlace.cells) r58.Places), .blk b64 34 [.int .i64 r58.Events, .slice A60 n61 c62], .row A67 n68 c69 2 1 (ints r65.Starts), .blk b71 36 [.int .i64 r65.Period, .slice A67 n68 c69], .row A74 n75 c76 2 1 (ints r72), .row A80 n81 c82 2 1 (ints r78.1)] := hs.ext hs1.below
          clear hs1
          refine sY hf hs rfl rfl rfl (Y_not rfl rfl) ?_; clear hf; intro a hf
          refine sY hf hs rfl rfl rfl (Y_move rfl rfl) ?_; clear hf; intro a hf
          refine bsplit (!r90) (fun hb92 => ?_) (fun hb92 => ?_)
          · have hj89 := bif_t hj89 hb92
            refine sNo hf rfl rfl rfl (congrArg (fun b => some (Value.bool b)) hb92) rfl rfl rfl ?_; clear hf; intro a hf
            refine sNo hf rfl rfl rfl (congrArg (fun b => some (Value.bool b)) hb92) rfl rfl rfl ?_; clear hf; intro a hf
            refine sNo hf rfl rfl rfl (congrArg (fun b => some (Value.bool b)) hb92) rfl rfl rfl ?_; clear hf; intro a hf
            refine sY hf hs rfl rfl rfl (Y_pickT rfl (congrArg (fun b => some (Value.bool b)) hb92) rfl) ?_; clear hf; intro a hf
            refine wpO_nil ?_
            refine wpL_nil (then_normal ?_)
            exact ⟨true, Option.some.inj hj89, (Fr.pick (Fr.pick (Fr.pick (Fr.pick (Fr.pick (Fr.pick (Fr.pick (Fr.pick (Fr.pick (Fr.pick (Fr.pick hf.none hf rfl) hf rfl) hf rfl) hf rfl) hf rfl) hf rfl) hf rfl) hf rfl) hf rfl) hf rfl) hf rfl), hs.sel [0, 1, 5, 7, 6, 9, 8, 10, 11] (by decide)⟩
          · have hj89 := bif_f hj89 hb92
            refine sYg hf hs rfl rfl rfl (congrArg (fun b => some (Value.bool b)) hb92) rfl rfl rfl (Y_move rfl rfl) ?_; clear hf; intro a hf
            refine sYg hf hs rfl rfl rfl (congrArg (fun b => some (Value.bool b)) hb92) rfl rfl rfl (Y_move rfl rfl) ?_; clear hf; intro a hf
            refine sYg hf hs rfl rfl rfl (congrArg (fun b => some (Value.bool b)) hb92) rfl rfl rfl (Y_neq rfl rfl rfl) ?_; clear hf; intro a hf
            refine sY hf hs rfl rfl rfl (Y_pickF rfl (congrArg (fun b => some (Value.bool b)) hb92) rfl) ?_; clear hf; intro a hf
            refine wpO_nil ?_
            refine wpL_nil (then_normal ?_)
            exact ⟨(r78.2 != r52.2), Option.some.inj hj89, (Fr.pick (Fr.pick (Fr.pick (Fr.pick (Fr.pick (Fr.pick (Fr.pick (Fr.pick (Fr.pick (Fr.pick (Fr.pick hf.none hf rfl) hf rfl) hf rfl) hf rfl) hf rfl) hf rfl) hf rfl) hf rfl) hf rfl) hf rfl) hf rfl), hs.sel [0, 1, 5, 7, 6, 9, 8, 10, 11] (by decide)⟩
        · rintro a w ⟨b87, hr_, hf, hs⟩
          subst hr_
          try dsimp only at hm
          refine wpL_cond hf rfl (fun hb93 => ?_) (fun hb93 => ?_)
          · have hm := bif_t hm hb93
            refine wpL_seq ?_
            refine wpL_region ?_
            refine sY hf hs rfl rfl rfl (Y_assign rfl rfl) ?_; clear hf; intro a hf
            refine wpO_nil ?_
            obtain rfl := Option.some.inj hm
            refine wpL_ret (ret_tmp rfl hf rfl ?_)
            exact ⟨_, rfl, rfl, hs.sel [] (by decide)⟩
          · have hm := bif_f hm hb93
            refine wpL_skip ?_
            refine wpL_seq ?_
            refine wpL_seq ?_
            refine wpL_drawG [.blk b1 24 [.int .i64 p0.Events, .slice A_p0_1 p0.Places.length c_p0_1], .blk b2 27 [.int .i64 p1.Period, .slice A_p1_1 p1.Starts.length c_p1_1], .row A54 n55 c56 2 1 (ints r52.1), .blk b64 34 [.int .i64 r58.Events, .slice A60 n61 c62], .row A60 n61 c62 71 4 ((recs GPlace.cells) r58.Places), .blk b71 36 [.int .i64 r65.Period, .slice A67 n68 c69], .row A67 n68 c69 2 1 (ints r65.Starts), .row A74 n75 c76 2 1 (ints r72), .row A80 n81 c82 2 1 (ints r78.1)] 5 (by kernel_rfl) hs ?_; clear hs; intro w hs
            have hs0 : St [] W w [.blk b1 24 [.int .i64 p0.Events, .slice A_p0_1 p0.Places.length c_p0_1], .blk b2 27 [.int .i64 p1.Period, .slice A_p1_1 p1.Starts.length c_p1_1], .row A54 n55 c56 2 1 (ints r52.1), .blk b64 34 [.int .i64 r58.Events, .slice A60 n61 c62], .row A60 n61 c62 71 4 ((recs GPlace.cells) r58.Places), .blk b71 36 [.int .i64 r65.Period, .slice A67 n68 c69], .row A67 n68 c69 2 1 (ints r65.Starts), .row A74 n75 c76 2 1 (ints r72), .row A80 n81 c82 2 1 (ints r78.1)] := hs
            refine gY (i := 0) [] rfl (by kernel_rfl) (by kernel_rfl) hf hs0 rfl rfl rfl (Y_load_blkS rfl rfl (i := 3) rfl ag34 ti34 rfl) ?_; clear hf; intro a hf
            refine gY (i := 1) [] rfl (by kernel_rfl) (by kernel_rfl) hf hs0 rfl rfl rfl (Y_load_blkS rfl rfl (i := 0) rfl ag24 ti24 rfl) ?_; clear hf; intro a hf
            refine gRun (i := 2) rfl (by kernel_rfl) ?_
            obtain ⟨r102, hc103, hm⟩ := bind_some hm
            refine sCall hf rfl rfl rfl rfl (cap := []) rfl rfl en18 (laws_toEventGraph_ok F p0 A_p0_1 p0.Places.length c_p0_1 rfl _ _ hc103 (h_p0_1.at hs)) ?_; clear hf
            rintro _ w ⟨A104, n105, c106, rfl, hn107, hs1⟩ a hf
            have hs : St [] W w [.blk b1 24 [.int .i64 p0.Events, .slice A_p0_1 p0.Places.length c_p0_1], .blk b2 27 [.int .i64 p1.Period, .slice A_p1_1 p1.Starts.length c_p1_1], .row A54 n55 c56 2 1 (ints r52.1), .blk b64 34 [.int .i64 r58.Events, .slice A60 n61 c62], .row A60 n61 c62 71 4 ((recs GPlace.cells) r58.Places), .blk b71 36 [.int .i64 r65.Period, .slice A67 n68 c69], .row A67 n68 c69 2 1 (ints r65.Starts), .row A74 n75 c76 2 1 (ints r72), .row A80 n81 c82 2 1 (ints r78.1), .row A104 n105 c106 71 4 ((recs GPlace.cells) r102.Places)] := hs.join hs1
            clear hs1
            have hs0 : St [] W w [.blk b1 24 [.int .i64 p0.Events, .slice A_p0_1 p0.Places.length c_p0_1], .blk b2 27 [.int .i64 p1.Period, .slice A_p1_1 p1.Starts.length c_p1_1], .row A54 n55 c56 2 1 (ints r52.1), .blk b64 34 [.int .i64 r58.Events, .slice A60 n61 c62], .row A60 n61 c62 71 4 ((recs GPlace.cells) r58.Places), .blk b71 36 [.int .i64 r65.Period, .slice A67 n68 c69], .row A67 n68 c69 2 1 (ints r65.Starts), .row A74 n75 c76 2 1 (ints r72), .row A80 n81 c82 2 1 (ints r78.1)] := hs.sel [0, 1, 2, 3, 4, 5, 6, 7, 8] (by decide)
            refine wpO_nil ⟨Or.inr hs0, ?_⟩
            refine gRun (i := 3) rfl (by kernel_rfl) ?_
            obtain ⟨r108, hc109, hm⟩ := bind_some hm
            refine sCall hf rfl rfl rfl rfl (cap := []) rfl rfl en21 (laws_eqEventGraph_ok F r58 A60 n61 c62 hn63 r102 A104 n105 c106 hn107 _ _ hc109 (hs.rd (i := 4) rfl) (hs.rd (i := 9) rfl)) ?_; clear hf
            rintro _ w ⟨rfl, hs1⟩ a hf
            have hs : St [] W w [.blk b1 24 [.int .i64 p0.Events, .slice A_p0_1 p0.Places.length c_p0_1], .blk b2 27 [.int .i64 p1.Period, .slice A_p1_1 p1.Starts.length c_p1_1], .row A54 n55 c56 2 1 (ints r52.1), .blk b64 34 [.int .i64 r58.Events, .slice A60 n61 c62], .row A60 n61 c62 71 4 ((recs GPlace.cells) r58.Places), .blk b71 36 [.int .i64 r65.Period, .slice A67 n68 c69], .row A67 n68 c69 2 1 (ints r65.Starts), .row A74 n75 c76 2 1 (ints r72), .row A80 n81 c82 2 1 (ints r78.1), .row A104 n105 c106 71 4 ((recs GPlace.cells) r102.Places)] := hs.ext hs1.below
            clear hs1
            have hs0 : St [] W w [.blk b1 24 [.int .i64 p0.Events, .slice A_p0_1 p0.Places.length c_p0_1], .blk b2 27 [.int .i64 p1.Period, .slice A_p1_1 p1.Starts.length c_p1_1], .row A54 n55 c56 2 1 (ints r52.1), .blk b64 34 [.int .i64 r58.Events, .slice A60 n61 c62], .row A60 n61 c62 71 4 ((recs GPlace.cells) r58.Places), .blk b71 36 [.int .i64 r65.Period, .slice A67 n68 c69], .row A67 n68 c69 2 1 (ints r65.Starts), .row A74 n75 c76 2 1 (ints r72), .row A80 n81 c82 2 1 (ints r78.1)] := hs.sel [0, 1, 2, 3, 4, 5, 6, 7, 8] (by decide)
            refine wpO_nil ⟨Or.inr hs0, ?_⟩
            refine gY (i := 4) [] rfl (by kernel_rfl) (by kernel_rfl) hf hs0 rfl rfl rfl (Y_not rfl rfl) ?_; clear hf; intro a hf
            refine gDone (by kernel_rfl) ?_
            clear hs0
            refine wpL_cond hf rfl (fun hb110 => ?_) (fun hb110 => ?_)
            · have hm := bif_t hm hb110
              refine wpL_seq ?_
              refine wpL_region ?_
              refine sY hf hs rfl rfl rfl (Y_assign rfl rfl) ?_; clear hf; intro a hf
              refine wpO_nil ?_
              obtain rfl := Option.some.inj hm
              refine wpL_ret (ret_tmp rfl hf rfl ?_)
              exact ⟨_, rfl, rfl, hs.sel [] (by decide)⟩
            · have hm := bif_f hm hb110
              refine wpL_skip ?_
              refine wpL_seq ?_
              refine wpL_seq ?_
              refine wpL_drawG [.blk b1 24 [.int .i64 p0.Events, .slice A_p0_1 p0.Places.length c_p0_1], .blk b2 27 [.int .i64 p1.Period, .slice A_p1_1 p1.Starts.length c_p1_1], .row A54 n55 c56 2 1 (ints r52.1), .blk b64 34 [.int .i64 r58.Events, .slice A60 n61 c62], .row A60 n61 c62 71 4 ((recs GPlace.cells) r58.Places), .blk b71 36 [.int .i64 r65.Period, .slice A67 n68 c69], .row A67 n68 c69 2 1 (ints r65.Starts), .row A74 n75 c76 2 1 (ints r72), .row A80 n81 c82 2 1 (ints r78.1), .row A104 n105 c106 71 4 ((recs GPlace.cells) r102.Places)] 5 (by kernel_rfl) hs ?_; clear hs; intro w hs
              have hs0 : St [] W w [.blk b1 24 [.int .i64 p0.Events, .slice A_p0_1 p0.Places.length c_p0_1], .blk b2 27 [.int .i64 p1.Period, .slice A_p1_1 p1.Starts.length c_p1_1], .row A54 n55 c56 2 1 (ints r52.1), .blk b64 34 [.int .i64 r58.Events, .slice A60 n61 c62], .row A60 n61 c62 71 4 ((recs GPlace.cells) r58.Places), .blk b71 36 [.int .i64 r65.Period, .slice A67 n68 c69], .row A67 n68 c69 2 1 (ints r65.Starts), .row A74 n75 c76 2 1 (ints r72), .row A80 n81 c82 2 1 (ints r78.1), .row A104 n105 c106 71 4 ((recs GPlace.cells) r102.Places)] := hs
              refine gY (i := 0) [] rfl (by kernel_rfl) (by kernel_rfl) hf hs0 rfl rfl rfl (Y_load_blkS rfl rfl (i := 5) rfl ag36 ti36 rfl) ?_; clear hf; intro a hf
              refine gY (i := 1) [] rfl (by kernel_rfl) (by kernel_rfl) hf hs0 rfl rfl rfl (Y_load_blkS rfl rfl (i := 1) rfl ag27 ti27 rfl) ?_; clear hf; intro a hf
              refine gRun (i := 2) rfl (by kernel_rfl) ?_
              obtain ⟨r119, hc120, hm⟩ := bind_some hm
              refine sCall hf rfl rfl rfl rfl (cap := []) rfl rfl en19 (laws_toTimetable_ok F p1 A_p1_1 p1.Starts.length c_p1_1 rfl _ _ hc120 (h_p1_1.at hs)) ?_; clear hf
              rintro _ w ⟨A121, n122, c123, rfl, hn124, hs1⟩ a hf
              have hs : St [] W w [.blk b1 24 [.int .i64 p0.Events, .slice A_p0_1 p0.Places.length c_p0_1], .blk b2 27 [.int .i64 p1.Period, .slice A_p1_1 p1.Starts.length c_p1_1], .row A54 n55 c56 2 1 (ints r52.1), .blk b64 34 [.int .i64 r58.Events, .slice A60 n61 c62], .row A60 n61 c62 71 4 ((recs GPlace.cells) r58.Places), .blk b71 36 [.int .i64 r65.Period, .slice A67 n68 c69], .row A67 n68 c69 2 1 (ints r65.Starts), .row A74 n75 c76 2 1 (ints r72), .row A80 n81 c82 2 1 (ints r78.1), .row A104 n105 c106 71 4 ((recs GPlace.cells) r102.Places), .row A121 n122 c123 2 1 (ints r119.Starts)] := hs.join hs1
              clear hs1
              have hs0 : St [] W w [.blk b1 24 [.int .i64 p0.Events, .slice A_p0_1 p0.Places.length c_p0_1], .blk b2 27 [.int .i64 p1.Period, .slice A_p1_1 p1.Starts.length c_p1_1], .row A54 n55 c56 2 1 (ints r52.1), .blk b64 34 [.int .i64 r58.Events, .slice A60 n61 c62], .row A60 n61 c62 71 4 ((recs GPlace.cells) r58.Places), .blk b71 36 [.int .i64 r65.Period, .slice A67 n68 c69], .row A67 n68 c69 2 1 (ints r65.Starts), .row A74 n75 c76 2 1 (ints r72), .row A80 n81 c82 2 1 (ints r78.1), .row A104 n105 c106 71 4 ((recs GPlace.cells) r102.Places)] := hs.sel [0, 1, 2, 3, 4, 5, 6, 7, 8, 9] (by decide)
              refine wpO_nil ⟨Or.inr hs0, ?_⟩
              refine gRun (i := 3) rfl (by kernel_rfl) ?_
              obtain ⟨r125, hc126, hm⟩ := bind_some hm
              refine sCall hf rfl rfl rfl rfl (cap := []) rfl rfl en22 (laws_eqTimetable_ok F r65 A67 n68 c69 hn70 r119 A121 n122 c123 hn124 _ _ hc126 (hs.rd (i := 6) rfl) (hs.rd (i := 10) rfl)) ?_; clear hf
              rintro _ w ⟨rfl, hs1⟩ a hf
              have hs : St [] W w [.blk b1 24 [.int .i64 p0.Events, .slice A_p0_1 p0.Places.length c_p0_1], .blk b2 27 [.int .i64 p1.Period, .slice A_p1_1 p1.Starts.length c_p1_1], .row A54 n55 c56 2 1 (ints r52.1), .blk b64 34 [.int .i64 r58.Events, .slice A60 n61 c62], .row A60 n61 c62 71 4 ((recs GPlace.cells) r58.Places), .blk b71 36 [.int .i64 r65.Period, .slice A67 n68 c69], .row A67 n68 c69 2 1 (ints r65.Starts), .row A74 n75 c76 2 1 (ints r72), .row A80 n81 c82 2 1 (ints r78.1), .row A104 n105 c106 71 4 ((recs GPlace.cells) r102.Places), .row A121 n122 c123 2 1 (ints r119.Starts)] := hs.ext hs1.below
              clear hs1
              have hs0 : St [] W w [.blk b1 24 [.int .i64 p0.Events, .slice A_p0_1 p0.Places.length c_p0_1], .blk b2 27 [.int .i64 p1.Period, .slice A_p1_1 p1.Starts.length c_p1_1], .row A54 n55 c56 2 1 (ints r52.1), .blk b64 34 [.int .i64 r58.Events, .slice A60 n61 c62], .row A60 n61 c62 71 4 ((recs GPlace.cells) r58.Places), .blk b71 36 [.int .i64 r65.Period, .slice A67 n68 c69], .row A67 n68 c69 2 1 (ints r65.Starts), .row A74 n75 c76 2 1 (ints r72), .row A80 n81 c82 2 1 (ints r78.1), .row A104 n105 c106 71 4 ((recs GPlace.cells) r102.Places)] := hs.sel [0, 1, 2, 3, 4, 5, 6, 7, 8, 9] (by decide)
              refine wpO_nil ⟨Or.inr hs0, ?_⟩
              refine gY (i := 4) [] rfl (by kernel_rfl) (by kernel_rfl) hf hs0 rfl rfl rfl (Y_not rfl rfl) ?_; clear hf; intro a hf
              refine gDone (by kernel_rfl) ?_
              clear hs0
              refine wpL_cond hf rfl (fun hb127 => ?_) (fun hb127 => ?_)
              · have hm := bif_t hm hb127
                refine wpL_seq ?_
                refine wpL_region ?_
                refine sY hf hs rfl rfl rfl (Y_assign rfl rfl) ?_; clear hf; intro a hf
                refine wpO_nil ?_
                obtain rfl := Option.some.inj hm
                refine wpL_ret (ret_tmp rfl hf rfl ?_)
                exact ⟨_, rfl, rfl, hs.sel [] (by decide)⟩
              · have hm := bif_f hm hb127
                refine wpL_skip ?_
                refine wpL_seq ?_
                refine wpL_seq ?_
                refine wpL_region ?_
                refine sY hf hs rfl rfl rfl (Y_move rfl rfl) ?_; clear hf; intro a hf
                refine sY hf hs rfl rfl rfl (Y_move rfl rfl) ?_; clear hf; intro a hf
                obtain ⟨r128, hc129, hm⟩ := bind_some hm
                refine sCall hf rfl rfl rfl rfl (cap := []) rfl rfl en32 (laws_toInt64S_ok F p2 A_p2_1 p2.length c_p2_1 rfl _ _ hc129 (h_p2_1.at hs)) ?_; clear hf
                rintro _ w ⟨A130, n131, c132, rfl, hn133, hs1⟩ a hf
                have hs : St [] W w [.blk b1 24 [.int .i64 p0.Events, .slice A_p0_1 p0.Places.length c_p0_1], .blk b2 27 [.int .i64 p1.Period, .slice A_p1_1 p1.Starts.length c_p1_1], .row A54 n55 c56 2 1 (ints r52.1), .blk b64 34 [.int .i64 r58.Events, .slice A60 n61 c62], .row A60 n61 c62 71 4 ((recs GPlace.cells) r58.Places), .blk b71 36 [.int .i64 r65.Period, .slice A67 n68 c69], .row A67 n68 c69 2 1 (ints r65.Starts), .row A74 n75 c76 2 1 (ints r72), .row A80 n81 c82 2 1 (ints r78.1), .row A104 n105 c106 71 4 ((recs GPlace.cells) r102.Places), .row A121 n122 c123 2 1 (ints r119.Starts), .row A130 n131 c132 2 1 (ints r128)] := hs.join hs1
                clear hs1
                obtain ⟨r134, hc135, hm⟩ := bind_some hm
                refine sCall hf rfl rfl rfl rfl (cap := []) rfl rfl en34 (laws_eqInt64S_ok F r72 A74 n75 c76 hn77 r128 A130 n131 c132 hn133 _ _ hc135 (hs.rd (i := 7) rfl) (hs.rd (i := 11) rfl)) ?_; clear hf
                rintro _ w ⟨rfl, hs1⟩ a hf
                have hs : St [] W w [.blk b1 24 [.int .i64 p0.Events, .slice A_p0_1 p0.Places.length c_p0_1], .blk b2 27 [.int .i64 p1.Period, .slice A_p1_1 p1.Starts.length c_p1_1], .row A54 n55 c56 2 1 (ints r52.1), .blk b64 34 [.int .i64 r58.Events, .slice A60 n61 c62], .row A60 n61 c62 71 4 ((recs GPlace.cells) r58.Places), .blk b71 36 [.int .i64 r65.Period, .slice A67 n68 c69], .row A67 n68 c69 2 1 (ints r65.Starts), .row A74 n75 c76 2 1 (ints r72), .row A80 n81 c82 2 1 (ints r78.1), .row A104 n105 c106 71 4 ((recs GPlace.cells) r102.Places), .row A121 n122 c123 2 1 (ints r119.Starts), .row A130 n131 c132 2 1 (ints r128)] := hs.ext hs1.below
                clear hs1
                refine sY hf hs rfl rfl rfl (Y_not rfl rfl) ?_; clear hf; intro a hf
                refine wpO_nil ?_
                refine wpL_cond hf rfl (fun hb136 => ?_) (fun hb136 => ?_)
                · have hm := bif_t hm hb136
                  refine wpL_seq ?_
                  refine wpL_region ?_
                  refine sY hf hs rfl rfl rfl (Y_assign rfl rfl) ?_; clear hf; intro a hf
                  refine wpO_nil ?_
                  obtain rfl := Option.some.inj hm
                  refine wpL_ret (ret_tmp rfl hf rfl ?_)
                  exact ⟨_, rfl, rfl, hs.sel [] (by decide)⟩
                · have hm := bif_f hm hb136
                  refine wpL_skip ?_
                  refine wpL_seq ?_
                  refine wpL_region ?_
                  refine sY hf hs rfl rfl rfl (Y_assign rfl rfl) ?_; clear hf; intro a hf
                  refine wpO_nil ?_
                  refine wpL_seq ?_
                  refine wpL_region ?_
                  refine sY hf hs rfl rfl rfl (Y_load_blkS rfl rfl (i := 3) rfl ag34 ti34 rfl) ?_; clear hf; intro a hf
                  refine sY hf hs rfl rfl rfl (Y_move rfl rfl) ?_; clear hf; intro a hf
                  obtain ⟨r137, hc138, hm⟩ := bind_some hm
                  refine sCall hf rfl rfl rfl rfl (cap := []) rfl rfl en28 (laws_markEventGraph_ok F r58 A60 n61 c62 hn63 1 _ _ hc138 (hs.res _ _ (show _[4]? = some _ from rfl))) ?_; clear hf
                  rintro _ w ⟨rfl, hn139, hs1⟩ a hf
                  have hs : St [] W w [.blk b1 24 [.int .i64 p0.Events, .slice A_p0_1 p0.Places.length c_p0_1], .blk b2 27 [.int .i64 p1.Period, .slice A_p1_1 p1.Starts.length c_p1_1], .row A54 n55 c56 2 1 (ints r52.1), .blk b64 34 [.int .i64 r58.Events, .slice A60 n61 c62], .row A60 n61 c62 71 4 ((recs GPlace.cells) r137.2), .blk b71 36 [.int .i64 r65.Period, .slice A67 n68 c69], .row A67 n68 c69 2 1 (ints r65.Starts), .row A74 n75 c76 2 1 (ints r72), .row A80 n81 c82 2 1 (ints r78.1), .row A104 n105 c106 71 4 ((recs GPlace.cells) r102.Places), .row A121 n122 c123 2 1 (ints r119.Starts), .row A130 n131 c132 2 1 (ints r128)] := hs.mut (i := 4) rfl (fun b hb => muA_mem hb) hs1
                  clear hs1
                  refine sY hf hs rfl rfl rfl (Y_assign rfl rfl) ?_; clear hf; intro a hf
                  refine wpO_nil ?_
                  refine wpL_seq ?_
                  refine wpL_region ?_
                  refine sY hf hs rfl rfl rfl (Y_load_blkS rfl rfl (i := 5) rfl ag36 ti36 rfl) ?_; clear hf; intro a hf
                  refine sY hf hs rfl rfl rfl (Y_move rfl rfl) ?_; clear hf; intro a hf
                  obtain ⟨r140, hc141, hm⟩ := bind_some hm
                  refine sCall hf rfl rfl rfl rfl (cap := []) rfl rfl en37 (laws_markTimetable_ok F r65 A67 n68 c69 hn70 r137.1 _ _ hc141 (hs.res _ _ (show _[6]? = some _ from rfl))) ?_; clear hf
                  rintro _ w ⟨rfl, hn142, hs1⟩ a hf
                  have hs : St [] W w [.blk b1 24 [.int .i64 p0.Events, .slice A_p0_1 p0.Places.length c_p0_1], .blk b2 27 [.int .i64 p1.Period, .slice A_p1_1 p1.Starts.length c_p1_1], .row A54 n55 c56 2 1 (ints r52.1), .blk b64 34 [.int .i64 r58.Events, .slice A60 n61 c62], .row A60 n61 c62 71 4 ((recs GPlace.cells) r137.2), .blk b71 36 [.int .i64 r65.Period, .slice A67 n68 c69], .row A67 n68 c69 2 1 (ints r140.2), .row A74 n75 c76 2 1 (ints r72), .row A80 n81 c82 2 1 (ints r78.1), .row A104 n105 c106 71 4 ((recs GPlace.cells) r102.Places), .row A121 n122 c123 2 1 (ints r119.Starts), .row A130 n131 c132 2 1 (ints r128)] := hs.mut (i := 6) rfl (fun b hb => muA_mem hb) hs1
                  clear hs1
                  refine sY hf hs rfl rfl rfl (Y_assign rfl rfl) ?_; clear hf; intro a hf
                  refine wpO_nil ?_
                  refine wpL_seq ?_
                  refine wpL_region ?_
                  refine sY hf hs rfl rfl rfl (Y_move rfl rfl) ?_; clear hf; intro a hf
                  refine sY hf hs rfl rfl rfl (Y_move rfl rfl) ?_; clear hf; intro a hf
                  obtain ⟨r143, hc144, hm⟩ := bind_some hm
                  refine sCall hf rfl rfl rfl rfl (cap := []) rfl rfl en38 (laws_markInt64S_ok F r72 A74 n75 c76 hn77 r140.1 _ _ hc144 (hs.res _ _ (show _[7]? = some _ from rfl))) ?_; clear hf
                  rintro _ w ⟨rfl, hn145, hs1⟩ a hf
                  have hs : St [] W w [.blk b1 24 [.int .i64 p0.Events, .slice A_p0_1 p0.Places.length c_p0_1], .blk b2 27 [.int .i64 p1.Period, .slice A_p1_1 p1.Starts.length c_p1_1], .row A54 n55 c56 2 1 (ints r52.1), .blk b64 34 [.int .i64 r58.Events, .slice A60 n61 c62], .row A60 n61 c62 71 4 ((recs GPlace.cells) r137.2), .blk b71 36 [.int .i64 r65.Period, .slice A67 n68 c69], .row A67 n68 c69 2 1 (ints r140.2), .row A74 n75 c76 2 1 (ints r143.2), .row A80 n81 c82 2 1 (ints r78.1), .row A104 n105 c106 71 4 ((recs GPlace.cells) r102.Places), .row A121 n122 c123 2 1 (ints r119.Starts), .row A130 n131 c132 2 1 (ints r128)] := hs.mut (i := 7) rfl (fun b hb => muA_mem hb) hs1
                  clear hs1
                  refine sY hf hs rfl rfl rfl (Y_assign rfl rfl) ?_; clear hf; intro a hf
                  refine wpO_nil ?_
                  refine wpL_seq ?_
                  refine wpL_seq ?_
                  obtain ⟨r151, hj152, hm⟩ := bind_some hm
                  refine wpL_cut (fun a w => ∃ b150 : Bool, b150 = r151 ∧ Fr a 140 [(2, .slice A_p2_1 p2.length c_p2_1), (3, .pointer (some ⟨b1, 0, none⟩)), (4, .pointer (some ⟨b2, 0, none⟩)), (8, .slice A54 n55 c56), (9, .int .i64 r52.2), (13, .slice A80 n81 c82), (101, .bool b150)] ∧ St [] W w [.blk b1 24 [.int .i64 p0.Events, .slice A_p0_1 p0.Places.length c_p0_1], .blk b2 27 [.int .i64 p1.Period, .slice A_p1_1 p1.Starts.length c_p1_1], .row A54 n55 c56 2 1 (ints r52.1), .row A80 n81 c82 2 1 (ints r78.1)]) ?_ ?_
                  · refine wpL_region ?_
                    refine sY hf hs rfl rfl rfl (Y_move rfl rfl) ?_; clear hf; intro a hf
                    refine sY hf hs rfl rfl rfl (Y_lss rfl rfl rfl) ?_; clear hf; intro a hf
                    refine sY hf hs rfl rfl rfl (Y_move rfl rfl) ?_; clear hf; intro a hf
                    refine bsplit (decide (r143.1 < 0)) (fun hb153 => ?_) (fun hb153 => ?_)
                    · have hj152 := bif_t hj152 hb153
                      refine sNo hf rfl rfl rfl (congrArg (fun b => some (Value.bool b)) hb153) rfl rfl rfl ?_; clear hf; intro a hf
                      refine sNo hf rfl rfl rfl (congrArg (fun b => some (Value.bool b)) hb153) rfl rfl rfl ?_; clear hf; intro a hf
                      refine sNo hf rfl rfl rfl (congrArg (fun b => some (Value.bool b)) hb153) rfl rfl rfl ?_; clear hf; intro a hf
                      refine sNo hf rfl rfl rfl (congrArg (fun b => some (Value.bool b)) hb153) rfl rfl rfl ?_; clear hf; intro a hf
                      refine sY hf hs rfl rfl rfl (Y_pickT rfl (congrArg (fun b => some (Value.bool b)) hb153) rfl) ?_; clear hf; intro a hf
                      refine sY hf hs rfl rfl rfl (Y_move rfl rfl) ?_; clear hf; intro a hf
                      refine sNo hf rfl rfl rfl rfl rfl rfl rfl ?_; clear hf; intro a hf
                      refine sNo hf rfl rfl rfl rfl rfl rfl rfl ?_; clear hf; intro a hf
                      refine sNo hf rfl rfl rfl rfl rfl rfl rfl ?_; clear hf; intro a hf
                      refine sY hf hs rfl rfl rfl (Y_pickT rfl rfl rfl) ?_; clear hf; intro a hf
                      refine wpO_nil ?_
                      refine wpL_nil (then_normal ?_)
                      exact ⟨true, Option.some.inj hj152, (Fr.pick (Fr.pick (Fr.pick (Fr.pick (Fr.pick (Fr.pick (Fr.pick hf.none hf rfl) hf rfl) hf rfl) hf rfl) hf rfl) hf rfl) hf rfl), hs.sel [0, 1, 2, 8] (by decide)⟩
                    · have hj152 := bif_f hj152 hb153
                      refine sYg hf hs rfl rfl rfl (congrArg (fun b => some (Value.bool b)) hb153) rfl rfl rfl (Y_move rfl rfl) ?_; clear hf; intro a hf
                      refine sYg hf hs rfl rfl rfl (congrArg (fun b => some (Value.bool b)) hb153) rfl rfl rfl (Y_move rfl rfl) ?_; clear hf; intro a hf
                      obtain ⟨r154, hc155, hj152⟩ := bind_some hj152
                      refine sCallg hf rfl rfl rfl (congrArg (fun b => some (Value.bool b)) hb153) rfl rfl rfl rfl (cap := []) rfl rfl en34 (laws_eqInt64S_ok F r78.1 A80 n81 c82 hn83 r52.1 A54 n55 c56 hn57 _ _ hc155 (hs.rd (i := 8) rfl) (hs.rd (i := 2) rfl)) ?_; clear hf
                      rintro _ w ⟨rfl, hs1⟩ a hf
                      have hs : St [] W w [.blk b1 24 [.int .i64 p0.Events, .slice A_p0_1 p0.Places.length c_p0_1], .blk b2 27 [.int .i64 p1.Period, .slice A_p1_1 p1.Starts.length c_p1_1], .row A54 n55 c56 2 1 (ints r52.1), .blk b64 34 [.int .i64 r58.Events, .slice A60 n61 c62], .row A60 n61 c62 71 4 ((recs GPlace.cells) r137.2), .blk b71 36 [.int .i64 r65.Period, .slice A67 n68 c69], .row A67 n68 c69 2 1 (ints r140.2), .row A74 n75 c76 2 1 (ints r143.2), .row A80 n81 c82 2 1 (ints r78.1), .row A104 n105 c106 71 4 ((recs GPlace.cells) r102.Places), .row A121 n122 c123 2 1 (ints r119.Starts), .row A130 n131 c132 2 1 (ints r128)] := hs.ext hs1.below
                      clear hs1
                      refine sYg hf hs rfl rfl rfl (congrArg (fun b => some (Value.bool b)) hb153) rfl rfl rfl (Y_not rfl rfl) ?_; clear hf; intro a hf
                      refine sY hf hs rfl rfl rfl (Y_pickF rfl (congrArg (fun b => some (Value.bool b)) hb153) rfl) ?_; clear hf; intro a hf
                      refine sY hf hs rfl rfl rfl (Y_move rfl rfl) ?_; clear hf; intro a hf
                      refine bsplit (!r154) (fun hb156 => ?_) (fun hb156 => ?_)
                      · have hj152 := bif_t hj152 hb156
                        refine sNo hf rfl rfl rfl (congrArg (fun b => some (Value.bool b)) hb156) rfl rfl rfl ?_; clear hf; intro a hf
                        refine sNo hf rfl rfl rfl (congrArg (fun b => some (Value.bool b)) hb156) rfl rfl rfl ?_; clear hf; intro a hf
                        refine sNo hf rfl rfl rfl (congrArg (fun b => some (Value.bool b)) hb156) rfl rfl rfl ?_; clear hf; intro a hf
                        refine sY hf hs rfl rfl rfl (Y_pickT rfl (congrArg (fun b => some (Value.bool b)) hb156) rfl) ?_; clear hf; intro a hf
                        refine wpO_nil ?_
                        refine wpL_nil (then_normal ?_)
                        exact ⟨true, Option.some.inj hj152, (Fr.pick (Fr.pick (Fr.pick (Fr.pick (Fr.pick (Fr.pick (Fr.pick hf.none hf rfl) hf rfl) hf rfl) hf rfl) hf rfl) hf rfl) hf rfl), hs.sel [0, 1, 2, 8] (by decide)⟩
                      · have hj152 := bif_f hj152 hb156
                        refine sYg hf hs rfl rfl rfl (congrArg (fun b => some (Value.bool b)) hb156) rfl rfl rfl (Y_move rfl rfl) ?_; clear hf; intro a hf
                        refine sYg hf hs rfl rfl rfl (congrArg (fun b => some (Value.bool b)) hb156) rfl rfl rfl (Y_move rfl rfl) ?_; clear hf; intro a hf
                        refine sYg hf hs rfl rfl rfl (congrArg (fun b => some (Value.bool b)) hb156) rfl rfl rfl (Y_neq rfl rfl rfl) ?_; clear hf; intro a hf
                        refine sY hf hs rfl rfl rfl (Y_pickF rfl (congrArg (fun b => some (Value.bool b)) hb156) rfl) ?_; clear hf; intro a hf
                        refine wpO_nil ?_
                        refine wpL_nil (then_normal ?_)
                        exact ⟨(r78.2 != r52.2), Option.some.inj hj152, (Fr.pick (Fr.pick (Fr.pick (Fr.pick (Fr.pick (Fr.pick (Fr.pick hf.none hf rfl) hf rfl) hf rfl) hf rfl) hf rfl) hf rfl) hf rfl), hs.sel [0, 1, 2, 8] (by decide)⟩
                  · rintro a w ⟨b150, hr_, hf, hs⟩
                    subst hr_
                    try dsimp only at hm
                    refine wpL_cond hf rfl (fun hb157 => ?_) (fun hb157 => ?_)
                    · have hm := bif_t hm hb157
                      refine wpL_seq ?_
                      refine wpL_region ?_
                      refine sY hf hs rfl rfl rfl (Y_assign rfl rfl) ?_; clear hf; intro a hf
                      refine wpO_nil ?_
                      obtain rfl := Option.some.inj hm
                      refine wpL_ret (ret_tmp rfl hf rfl ?_)
                      exact ⟨_, rfl, rfl, hs.sel [] (by decide)⟩
                    · have hm := bif_f hm hb157
                      refine wpL_skip ?_
                      refine wpL_seq ?_
                      refine wpL_region ?_
                      refine sY hf hs rfl rfl rfl (Y_assign rfl rfl) ?_; clear hf; intro a hf
                      refine wpO_nil ?_
                      refine wpL_seq ?_
                      refine wpL_region ?_
                      refine sY hf hs rfl rfl rfl (Y_move rfl rfl) ?_; clear hf; intro a hf
                      refine sY hf hs rfl rfl rfl (Y_move rfl rfl) ?_; clear hf; intro a hf
                      obtain ⟨r158, hc159, hm⟩ := bind_some hm
                      refine sCall hf rfl rfl rfl rfl (cap := []) rfl rfl en38 (laws_markInt64S_ok F r78.1 A80 n81 c82 hn83 1 _ _ hc159 (hs.res _ _ (show _[3]? = some _ from rfl))) ?_; clear hf
                      rintro _ w ⟨rfl, hn160, hs1⟩ a hf
                      have hs : St [] W w [.blk b1 24 [.int .i64 p0.Events, .slice A_p0_1 p0.Places.length c_p0_1], .blk b2 27 [.int .i64 p1.Period, .slice A_p1_1 p1.Starts.length c_p1_1], .row A54 n55 c56 2 1 (ints r52.1), .row A80 n81 c82 2 1 (ints r158.2)] := hs.mut (i := 3) rfl (fun b hb => muA_mem hb) hs1
                      clear hs1
                      refine sY hf hs rfl rfl rfl (Y_assign rfl rfl) ?_; clear hf; intro a hf
                      refine wpO_nil ?_
                      refine wpL_seq ?_
                      refine wpL_region ?_
                      refine sY hf hs rfl rfl rfl (Y_assign rfl rfl) ?_; clear hf; intro a hf
                      refine wpO_nil ?_
                      refine wpL_seq ?_
                      refine wpL_region ?_
                      refine sY hf hs rfl rfl rfl (Y_move rfl rfl) ?_; clear hf; intro a hf
                      refine sY hf hs rfl rfl rfl (Y_move rfl rfl) ?_; clear hf; intro a hf
                      obtain ⟨r161, hc162, hm⟩ := bind_some hm
                      refine sCall hf rfl rfl rfl rfl (cap := []) rfl rfl en41 (laws_heldInt64S_ok F r158.2 A80 n81 c82 hn160 1 _ _ hc162 (hs.rd (i := 3) rfl)) ?_; clear hf
                      rintro _ w ⟨rfl, hs1⟩ a hf
                      have hs : St [] W w [.blk b1 24 [.int .i64 p0.Events, .slice A_p0_1 p0.Places.length c_p0_1], .blk b2 27 [.int .i64 p1.Period, .slice A_p1_1 p1.Starts.length c_p1_1], .row A54 n55 c56 2 1 (ints r52.1), .row A80 n81 c82 2 1 (ints r158.2)] := hs.ext hs1.below
                      clear hs1
                      refine sY hf hs rfl rfl rfl (Y_assign rfl rfl) ?_; clear hf; intro a hf
                      refine wpO_nil ?_
                      refine wpL_seq ?_
                      refine wpL_seq ?_
                      refine wpL_region ?_
                      refine sY hf hs rfl rfl rfl (Y_move rfl rfl) ?_; clear hf; intro a hf
                      refine sY hf hs rfl rfl rfl (Y_lss rfl rfl rfl) ?_; clear hf; intro a hf
                      refine wpO_nil ?_
                      refine wpL_cond hf rfl (fun hb163 => ?_) (fun hb163 => ?_)
                      · have hm := bif_t hm hb163
                        refine wpL_seq ?_
                        refine wpL_region ?_
                        refine sY hf hs rfl rfl rfl (Y_assign rfl rfl) ?_; clear hf; intro a hf
                        refine wpO_nil ?_
                        obtain rfl := Option.some.inj hm
                        refine wpL_ret (ret_tmp rfl hf rfl ?_)
                        exact ⟨_, rfl, rfl, hs.sel [] (by decide)⟩
                      · have hm := bif_f hm hb163
                        refine wpL_skip ?_
                        refine wpL_seq ?_
                        refine wpL_seq ?_
                        refine wpL_region ?_
                        refine sY hf hs rfl rfl rfl (Y_move rfl rfl) ?_; clear hf; intro a hf
                        refine sY hf hs rfl rfl rfl (Y_move rfl rfl) ?_; clear hf; intro a hf
                        refine sY hf hs rfl rfl rfl (Y_neq rfl rfl rfl) ?_; clear hf; intro a hf
                        refine wpO_nil ?_
                        refine wpL_cond hf rfl (fun hb164 => ?_) (fun hb164 => ?_)
                        · have hm := bif_t hm hb164
                          refine wpL_seq ?_
                          refine wpL_region ?_
                          refine sY hf hs rfl rfl rfl (Y_assign rfl rfl) ?_; clear hf; intro a hf
                          refine wpO_nil ?_
                          obtain rfl := Option.some.inj hm
                          refine wpL_ret (ret_tmp rfl hf rfl ?_)
                          exact ⟨_, rfl, rfl, hs.sel [] (by decide)⟩
                        · have hm := bif_f hm hb164
                          refine wpL_skip ?_
                          refine wpL_seq ?_
                          refine wpL_drawG [.blk b1 24 [.int .i64 p0.Events, .slice A_p0_1 p0.Places.length c_p0_1], .blk b2 27 [.int .i64 p1.Period, .slice A_p1_1 p1.Starts.length c_p1_1], .row A54 n55 c56 2 1 (ints r52.1), .row A80 n81 c82 2 1 (ints r158.2)] 12 (by kernel_rfl) hs ?_; clear hs; intro w hs
                          have hs0 : St [] W w [.blk b1 24 [.int .i64 p0.Events, .slice A_p0_1 p0.Places.length c_p0_1], .blk b2 27 [.int .i64 p1.Period, .slice A_p1_1 p1.Starts.length c_p1_1], .row A54 n55 c56 2 1 (ints r52.1), .row A80 n81 c82 2 1 (ints r158.2)] := hs
                          refine gY (i := 0) [] rfl (by kernel_rfl) (by kernel_rfl) hf hs0 rfl rfl rfl (Y_load_blkS rfl rfl (i := 0) rfl ag24 ti24 rfl) ?_; clear hf; intro a hf
                          refine gY (i := 2) [] rfl (by kernel_rfl) (by kernel_rfl) hf hs0 rfl rfl rfl (Y_load_blkS rfl rfl (i := 1) rfl ag27 ti27 rfl) ?_; clear hf; intro a hf
                          refine gY (i := 4) [] rfl (by kernel_rfl) (by kernel_rfl) hf hs0 rfl rfl rfl (Y_move rfl rfl) ?_; clear hf; intro a hf
                          refine gRun (i := 1) rfl (by kernel_rfl) ?_
                          obtain ⟨r189, hc190, hm⟩ := bind_some hm
                          refine sCall hf rfl rfl rfl rfl (cap := []) rfl rfl en18 (laws_toEventGraph_ok F p0 A_p0_1 p0.Places.length c_p0_1 rfl _ _ hc190 (h_p0_1.at hs)) ?_; clear hf
                          rintro _ w ⟨A191, n192, c193, rfl, hn194, hs1⟩ a hf
                          have hs : St [] W w [.blk b1 24 [.int .i64 p0.Events, .slice A_p0_1 p0.Places.length c_p0_1], .blk b2 27 [.int .i64 p1.Period, .slice A_p1_1 p1.Starts.length c_p1_1], .row A54 n55 c56 2 1 (ints r52.1), .row A80 n81 c82 2 1 (ints r158.2), .row A191 n192 c193 71 4 ((recs GPlace.cells) r189.Places)] := hs.join hs1
                          clear hs1
                          have hs0 : St [] W w [.blk b1 24 [.int .i64 p0.Events, .slice A_p0_1 p0.Places.length c_p0_1], .blk b2 27 [.int .i64 p1.Period, .slice A_p1_1 p1.Starts.length c_p1_1], .row A54 n55 c56 2 1 (ints r52.1), .row A80 n81 c82 2 1 (ints r158.2)] := hs.sel [0, 1, 2, 3] (by decide)
                          refine wpO_nil ⟨Or.inr hs0, ?_⟩
                          refine gRun (i := 3) rfl (by kernel_rfl) ?_
                          obtain ⟨r195, hc196, hm⟩ := bind_some hm
                          refine sCall hf rfl rfl rfl rfl (cap := []) rfl rfl en19 (laws_toTimetable_ok F p1 A_p1_1 p1.Starts.length c_p1_1 rfl _ _ hc196 (h_p1_1.at hs)) ?_; clear hf
                          rintro _ w ⟨A197, n198, c199, rfl, hn200, hs1⟩ a hf
                          have hs : St [] W w [.blk b1 24 [.int .i64 p0.Events, .slice A_p0_1 p0.Places.length c_p0_1], .blk b2 27 [.int .i64 p1.Period, .slice A_p1_1 p1.Starts.length c_p1_1], .row A54 n55 c56 2 1 (ints r52.1), .row A80 n81 c82 2 1 (ints r158.2), .row A191 n192 c193 71 4 ((recs GPlace.cells) r189.Places), .row A197 n198 c199 2 1 (ints r195.Starts)] := hs.join hs1
                          clear hs1
                          have hs0 : St [] W w [.blk b1 24 [.int .i64 p0.Events, .slice A_p0_1 p0.Places.length c_p0_1], .blk b2 27 [.int .i64 p1.Period, .slice A_p1_1 p1.Starts.length c_p1_1], .row A54 n55 c56 2 1 (ints r52.1), .row A80 n81 c82 2 1 (ints r158.2)] := hs.sel [0, 1, 2, 3] (by decide)
                          refine wpO_nil ⟨Or.inr hs0, ?_⟩
                          refine gRun (i := 5) rfl (by kernel_rfl) ?_
                          obtain ⟨r201, hc202, hm⟩ := bind_some hm
                          refine sCall hf rfl rfl rfl rfl (cap := []) rfl rfl en32 (laws_toInt64S_ok F p2 A_p2_1 p2.length c_p2_1 rfl _ _ hc202 (h_p2_1.at hs)) ?_; clear hf
                          rintro _ w ⟨A203, n204, c205, rfl, hn206, hs1⟩ a hf
                          have hs : St [] W w [.blk b1 24 [.int .i64 p0.Events, .slice A_p0_1 p0.Places.length c_p0_1], .blk b2 27 [.int .i64 p1.Period, .slice A_p1_1 p1.Starts.length c_p1_1], .row A54 n55 c56 2 1 (ints r52.1), .row A80 n81 c82 2 1 (ints r158.2), .row A191 n192 c193 71 4 ((recs GPlace.cells) r189.Places), .row A197 n198 c199 2 1 (ints r195.Starts), .row A203 n204 c205 2 1 (ints r201)] := hs.join hs1
                          clear hs1
                          have hs0 : St [] W w [.blk b1 24 [.int .i64 p0.Events, .slice A_p0_1 p0.Places.length c_p0_1], .blk b2 27 [.int .i64 p1.Period, .slice A_p1_1 p1.Starts.length c_p1_1], .row A54 n55 c56 2 1 (ints r52.1), .row A80 n81 c82 2 1 (ints r158.2)] := hs.sel [0, 1, 2, 3] (by decide)
                          refine wpO_nil ⟨Or.inr hs0, ?_⟩
                          refine gRun (i := 6) rfl (by kernel_rfl) ?_
                          obtain ⟨r207, hc208, hm⟩ := bind_some hm
                          refine sCall hf rfl rfl rfl rfl (cap := []) rfl rfl en40 (impl_WorstDelays_ok F r189 A191 n192 c193 hn194 r195 A197 n198 c199 hn200 r201 A203 n204 c205 hn206 _ _ hc208 (hs.rd (i := 4) rfl) (hs.rd (i := 5) rfl) (hs.rd (i := 6) rfl)) ?_; clear hf
                          rintro _ w ⟨A209, n210, c211, rfl, hn212, hs1⟩ a hf
                          have hs : St [] W w [.blk b1 24 [.int .i64 p0.Events, .slice A_p0_1 p0.Places.length c_p0_1], .blk b2 27 [.int .i64 p1.Period, .slice A_p1_1 p1.Starts.length c_p1_1], .row A54 n55 c56 2 1 (ints r52.1), .row A80 n81 c82 2 1 (ints r158.2), .row A191 n192 c193 71 4 ((recs GPlace.cells) r189.Places), .row A197 n198 c199 2 1 (ints r195.Starts), .row A203 n204 c205 2 1 (ints r201), .row A209 n210 c211 2 1 (ints r207.1)] := hs.join hs1
                          clear hs1
                          have hs0 : St [] W w [.blk b1 24 [.int .i64 p0.Events, .slice A_p0_1 p0.Places.length c_p0_1], .blk b2 27 [.int .i64 p1.Period, .slice A_p1_1 p1.Starts.length c_p1_1], .row A54 n55 c56 2 1 (ints r52.1), .row A80 n81 c82 2 1 (ints r158.2)] := hs.sel [0, 1, 2, 3] (by decide)
                          refine wpO_nil ⟨Or.inr hs0, ?_⟩
                          refine gY (i := 7) [] rfl (by kernel_rfl) (by kernel_rfl) hf hs0 rfl rfl rfl (Y_move rfl rfl) ?_; clear hf; intro a hf
                          refine gY (i := 8) [] rfl (by kernel_rfl) (by kernel_rfl) hf hs0 rfl rfl rfl (Y_extract rfl rfl rfl) ?_; clear hf; intro a hf
                          refine gY (i := 9) [] rfl (by kernel_rfl) (by kernel_rfl) hf hs0 rfl rfl rfl (Y_extract rfl rfl rfl) ?_; clear hf; intro a hf
                          refine gY (i := 10) [] rfl (by kernel_rfl) (by kernel_rfl) hf hs0 rfl rfl rfl (Y_assign rfl rfl) ?_; clear hf; intro a hf
                          refine gY (i := 11) [] rfl (by kernel_rfl) (by kernel_rfl) hf hs0 rfl rfl rfl (Y_assign rfl rfl) ?_; clear hf; intro a hf
                          refine gDone (by kernel_rfl) ?_
                          clear hs0
                          refine wpL_seq ?_
                          refine wpL_seq ?_
                          obtain ⟨r217, hj218, hm⟩ := bind_some hm
                          refine wpL_cut (fun a w => ∃ b216 : Bool, b216 = r217 ∧ Fr a 140 [(13, .slice A80 n81 c82), (16, .int .i64 r158.1), (131, .bool b216)] ∧ St [] W w [.row A80 n81 c82 2 1 (ints r158.2)]) ?_ ?_
                          · refine wpL_region ?_
                            refine sY hf hs rfl rfl rfl (Y_move rfl rfl) ?_; clear hf; intro a hf
                            refine sY hf hs rfl rfl rfl (Y_move rfl rfl) ?_; clear hf; intro a hf
                            obtain ⟨r219, hc220, hj218⟩ := bind_some hj218
                            refine sCall hf rfl rfl rfl rfl (cap := []) rfl rfl en34 (laws_eqInt64S_ok F r207.1 A209 n210 c211 hn212 r52.1 A54 n55 c56 hn57 _ _ hc220 (hs.rd (i := 7) rfl) (hs.rd (i := 2) rfl)) ?_; clear hf
                            rintro _ w ⟨rfl, hs1⟩ a hf
                            have hs : St [] W w [.blk b1 24 [.int .i64 p0.Events, .slice A_p0_1 p0.Places.length c_p0_1], .blk b2 27 [.int .i64 p1.Period, .slice A_p1_1 p1.Starts.length c_p1_1], .row A54 n55 c56 2 1 (ints r52.1), .row A80 n81 c82 2 1 (ints r158.2), .row A191 n192 c193 71 4 ((recs GPlace.cells) r189.Places), .row A197 n198 c199 2 1 (ints r195.Starts), .row A203 n204 c205 2 1 (ints r201), .row A209 n210 c211 2 1 (ints r207.1)] := hs.ext hs1.below
                            clear hs1
                            refine sY hf hs rfl rfl rfl (Y_not rfl rfl) ?_; clear hf; intro a hf
                            refine sY hf hs rfl rfl rfl (Y_move rfl rfl) ?_; clear hf; intro a hf
                            refine bsplit (!r219) (fun hb221 => ?_) (fun hb221 => ?_)
                            · have hj218 := bif_t hj218 hb221
                              refine sNo hf rfl rfl rfl (congrArg (fun b => some (Value.bool b)) hb221) rfl rfl rfl ?_; clear hf; intro a hf
                              refine sNo hf rfl rfl rfl (congrArg (fun b => some (Value.bool b)) hb221) rfl rfl rfl ?_; clear hf; intro a hf
                              refine sNo hf rfl rfl rfl (congrArg (fun b => some (Value.bool b)) hb221) rfl rfl rfl ?_; clear hf; intro a hf
                              refine sY hf hs rfl rfl rfl (Y_pickT rfl (congrArg (fun b => some (Value.bool b)) hb221) rfl) ?_; clear hf; intro a hf
                              refine wpO_nil ?_
                              refine wpL_nil (then_normal ?_)
                              exact ⟨true, Option.some.inj hj218, (Fr.pick (Fr.pick (Fr.pick hf.none hf rfl) hf rfl) hf rfl), hs.sel [3] (by decide)⟩
                            · have hj218 := bif_f hj218 hb221
                              refine sYg hf hs rfl rfl rfl (congrArg (fun b => some (Value.bool b)) hb221) rfl rfl rfl (Y_move rfl rfl) ?_; clear hf; intro a hf
                              refine sYg hf hs rfl rfl rfl (congrArg (fun b => some (Value.bool b)) hb221) rfl rfl rfl (Y_move rfl rfl) ?_; clear hf; intro a hf
                              refine sYg hf hs rfl rfl rfl (congrArg (fun b => some (Value.bool b)) hb221) rfl rfl rfl (Y_neq rfl rfl rfl) ?_; clear hf; intro a hf
                              refine sY hf hs rfl rfl rfl (Y_pickF rfl (congrArg (fun b => some (Value.bool b)) hb221) rfl) ?_; clear hf; intro a hf
                              refine wpO_nil ?_
                              refine wpL_nil (then_normal ?_)
                              exact ⟨(r207.2 != r52.2), Option.some.inj hj218, (Fr.pick (Fr.pick (Fr.pick hf.none hf rfl) hf rfl) hf rfl), hs.sel [3] (by decide)⟩
                          · rintro a w ⟨b216, hr_, hf, hs⟩
                            subst hr_
                            try dsimp only at hm
                            refine wpL_cond hf rfl (fun hb222 => ?_) (fun hb222 => ?_)
                            · have hm := bif_t hm hb222
                              refine wpL_seq ?_
                              refine wpL_region ?_
                              refine sY hf hs rfl rfl rfl (Y_assign rfl rfl) ?_; clear hf; intro a hf
                              refine wpO_nil ?_
                              obtain rfl := Option.some.inj hm
                              refine wpL_ret (ret_tmp rfl hf rfl ?_)
                              exact ⟨_, rfl, rfl, hs.sel [] (by decide)⟩
                            · have hm := bif_f hm hb222
                              refine wpL_skip ?_
                              refine wpL_seq ?_
                              refine wpL_region ?_
                              refine sY hf hs rfl rfl rfl (Y_assign rfl rfl) ?_; clear hf; intro a hf
                              refine wpO_nil ?_
                              refine wpL_seq ?_
                              refine wpL_region ?_
                              refine sY hf hs rfl rfl rfl (Y_move rfl rfl) ?_; clear hf; intro a hf
                              refine sY hf hs rfl rfl rfl (Y_move rfl rfl) ?_; clear hf; intro a hf
                              obtain ⟨r223, hc224, hm⟩ := bind_some hm
                              refine sCall hf rfl rfl rfl rfl (cap := []) rfl rfl en41 (laws_heldInt64S_ok F r158.2 A80 n81 c82 hn160 1 _ _ hc224 (hs.rd (i := 0) rfl)) ?_; clear hf
                              rintro _ w ⟨rfl, hs1⟩ a hf
                              have hs : St [] W w [.row A80 n81 c82 2 1 (ints r158.2)] := hs.ext hs1.below
                              clear hs1
                              refine sY hf hs rfl rfl rfl (Y_assign rfl rfl) ?_; clear hf; intro a hf
                              refine wpO_nil ?_
                              refine wpL_seq ?_
                              refine wpL_seq ?_
                              refine wpL_region ?_
                              refine sY hf hs rfl rfl rfl (Y_move rfl rfl) ?_; clear hf; intro a hf
                              refine sY hf hs rfl rfl rfl (Y_lss rfl rfl rfl) ?_; clear hf; intro a hf
                              refine wpO_nil ?_
                              refine wpL_cond hf rfl (fun hb225 => ?_) (fun hb225 => ?_)
                              · have hm := bif_t hm hb225
                                refine wpL_seq ?_
                                refine wpL_region ?_
                                refine sY hf hs rfl rfl rfl (Y_assign rfl rfl) ?_; clear hf; intro a hf
                                refine wpO_nil ?_
                                obtain rfl := Option.some.inj hm
                                refine wpL_ret (ret_tmp rfl hf rfl ?_)
                                exact ⟨_, rfl, rfl, hs.sel [] (by decide)⟩
                              · have hm := bif_f hm hb225
                                refine wpL_skip ?_
                                refine wpL_seq ?_
                                refine wpL_seq ?_
                                refine wpL_region ?_
                                refine sY hf hs rfl rfl rfl (Y_move rfl rfl) ?_; clear hf; intro a hf
                                refine sY hf hs rfl rfl rfl (Y_move rfl rfl) ?_; clear hf; intro a hf
                                refine sY hf hs rfl rfl rfl (Y_neq rfl rfl rfl) ?_; clear hf; intro a hf
                                refine wpO_nil ?_
                                refine wpL_cond hf rfl (fun hb226 => ?_) (fun hb226 => ?_)
                                · have hm := bif_t hm hb226
                                  refine wpL_seq ?_
                                  refine wpL_region ?_
                                  refine sY hf hs rfl rfl rfl (Y_assign rfl rfl) ?_; clear hf; intro a hf
                                  refine wpO_nil ?_
                                  obtain rfl := Option.some.inj hm
                                  refine wpL_ret (ret_tmp rfl hf rfl ?_)
                                  exact ⟨_, rfl, rfl, hs.sel [] (by decide)⟩
                                · have hm := bif_f hm hb226
                                  refine wpL_skip ?_
                                  refine wpL_seq ?_
                                  refine wpL_region ?_
                                  refine sY hf hs rfl rfl rfl (Y_assign rfl rfl) ?_; clear hf; intro a hf
                                  refine wpO_nil ?_
                                  obtain rfl := Option.some.inj hm
                                  refine wpL_ret (ret_tmp rfl hf rfl ?_)
                                  exact ⟨_, rfl, rfl, hs.sel [] (by decide)⟩

end Go.Proofs.Ythbcakdjdbfepaa
