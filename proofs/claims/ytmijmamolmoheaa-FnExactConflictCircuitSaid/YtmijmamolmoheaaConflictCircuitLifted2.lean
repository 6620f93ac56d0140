/- The functions do what their models say. -/
import Derived.Test.YtmijmamolmoheaaConflictCircuitLifted1
import Derived.Test.YtmijmamolmoheaaRows
namespace Go.Proofs.Ytmijmamolmoheaa
open Go.RowKit

set_option maxHeartbeats 2000000 in
set_option maxRecDepth 100000 in
theorem impl_betterCircuit_ok (F : Nat) (p0 : GEventGraph) (A_p0_1 : Option Addr) (n_p0_1 c_p0_1 : Nat) (hn_p0_1 : n_p0_1 = p0.Places.length) (p1 : GRatio) (r : List Int) (W : World) (hm : impl_betterCircuit F p0 p1 = some r) (h_p0_1 : Rd W A_p0_1 ((recs GPlace.cells) p0.Places)) :
    Calls Try.prog 77 [.agg #[.int .i64 p0.Events, .slice A_p0_1 n_p0_1 c_p0_1], .agg #[.int .i64 p1.Num, .int .i64 p1.Den]].toArray W fun e w' => ∃ v, e = .returned v ∧ ∃ A663, ∃ n664, ∃ c665, v = .slice A663 n664 c665 ∧ n664 = r.length ∧ (r = [] → A663 = none) ∧ St [] W w' [.row A663 n664 c665 2 1 (ints r)] := by
  subst hn_p0_1
  unfold impl_betterCircuit at hm
  refine Calls.enter (N := 101) Try.func77 rfl rfl rfl (fun a hf => ?_)
  have hs := St.start W
  obtain ⟨w, hw_⟩ : ∃ w, w = W := ⟨W, rfl⟩
  clear hw_ w
  refine wpL_seq ?_
  refine wpL_region ?_
  refine sBox hf hs rfl rfl rfl rfl rfl (cs := [.int .i64 p0.Events, .slice A_p0_1 p0.Places.length c_p0_1]) rfl ?_; clear hf hs; intro a w b1 hs hf
  have hs : St [] W w [.blk b1 30 [.int .i64 p0.Events, .slice A_p0_1 p0.Places.length c_p0_1]] := hs
  refine sBox hf hs rfl rfl rfl rfl rfl (cs := [.int .i64 p1.Num, .int .i64 p1.Den]) rfl ?_; clear hf hs; intro a w b2 hs hf
  have hs : St [] W w [.blk b1 30 [.int .i64 p0.Events, .slice A_p0_1 p0.Places.length c_p0_1], .blk b2 84 [.int .i64 p1.Num, .int .i64 p1.Den]] := hs
  refine sY hf hs rfl rfl rfl (Y_assign rfl rfl) ?_; clear hf; intro a hf
  refine wpO_nil ?_
  refine wpL_seq ?_
  refine wpL_region ?_
  refine sY hf hs rfl rfl rfl (Y_fieldAddr rfl rfl fo30_0) ?_; clear hf; intro a hf
  refine sY hf hs rfl rfl rfl (Y_load_blk rfl rfl (i := 0) rfl rfl ag2) ?_; clear hf; intro a hf
  obtain ⟨xs5, hk4, hm⟩ := bind_some hm
  refine sMakeL (enc := ints) hf hs rfl rfl rfl rfl rfl hk4 el36 ti2 rfl ints_made ?_; clear hf hs; intro a w A3 hs hf
  have hs : St [] W w [.blk b1 30 [.int .i64 p0.Events, .slice A_p0_1 p0.Places.length c_p0_1], .blk b2 84 [.int .i64 p1.Num, .int .i64 p1.Den], .row A3 xs5.length xs5.length 2 1 (ints xs5)] := hs
  refine sY hf hs rfl rfl rfl (Y_assign rfl rfl) ?_; clear hf; intro a hf
  refine wpO_nil ?_
  refine wpL_seq ?_
  refine wpL_region ?_
  refine sY hf hs rfl rfl rfl (Y_fieldAddr rfl rfl fo30_0) ?_; clear hf; intro a hf
  refine sY hf hs rfl rfl rfl (Y_load_blk rfl rfl (i := 0) rfl rfl ag2) ?_; clear hf; intro a hf
  obtain ⟨xs8, hk7, hm⟩ := bind_some hm
  refine sMakeL (enc := ints) hf hs rfl rfl rfl rfl rfl hk7 el36 ti2 rfl ints_made ?_; clear hf hs; intro a w A6 hs hf
  have hs : St [] W w [.blk b1 30 [.int .i64 p0.Events, .slice A_p0_1 p0.Places.length c_p0_1], .blk b2 84 [.int .i64 p1.Num, .int .i64 p1.Den], .row A3 xs5.length xs5.length 2 1 (ints xs5), .row A6 xs8.length xs8.length 2 1 (ints xs8)] := hs
  refine sY hf hs rfl rfl rfl (Y_assign rfl rfl) ?_; clear hf; intro a hf
  refine wpO_nil ?_
  refine wpL_seq ?_
  refine wpL_region ?_
  refine sY hf hs rfl rfl rfl (Y_assign rfl rfl) ?_; clear hf; intro a hf
  refine wpO_nil ?_
  refine wpL_seq ?_
  refine wpL_seq ?_
  refine wpL_region ?_
  refine sY hf hs rfl rfl rfl (Y_fieldAddr rfl rfl fo30_0) ?_; clear hf; intro a hf
  refine sY hf hs rfl rfl rfl (Y_load_blk rfl rfl (i := 0) rfl rfl ag2) ?_; clear hf; intro a hf
  refine sY hf hs rfl rfl rfl (Y_add rfl rfl rfl) ?_; clear hf; intro a hf
  refine sY hf hs rfl rfl rfl (Y_move rfl rfl) ?_; clear hf; intro a hf
  refine wpO_nil ?_
  obtain ⟨r417, hl418, hm⟩ := bind_some hm
  refine wpL_block (fun a w => ∃ xs414 : List Int, ∃ x416 : Int, Sum.inr (xs414, x416) = r417 ∧ xs8.length = xs414.length ∧ Fr a 101 [(2, .pointer (some ⟨b1, 0, none⟩)), (6, .slice A6 xs8.length xs8.length), (7, .int .i64 x416)] ∧ St [] W w [.blk b1 30 [.int .i64 p0.Events, .slice A_p0_1 p0.Places.length c_p0_1], .row A6 xs8.length xs8.length 2 1 (ints xs414)]) ?_ ?_
  · refine wpL_loop (fun n a w => ∃ xs277 : List Int, ∃ xs279 : List Int, ∃ x281 : Int, ∃ x282 : Int, impl_betterCircuit_L4 F p0 p1 n xs277 xs279 x281 x282 = some r417 ∧ xs5.length = xs277.length ∧ xs8.length = xs279.length ∧ Fr a 101 [(2, .pointer (some ⟨b1, 0, none⟩)), (3, .pointer (some ⟨b2, 0, none⟩)), (5, .slice A3 xs5.length xs5.length), (6, .slice A6 xs8.length xs8.length), (7, .int .i64 x281), (21, .int .i64 (IntKind.i64.wrap (p0.Events + 1))), (22, .int .i64 x282)] ∧ St [] W w [.blk b1 30 [.int .i64 p0.Events, .slice A_p0_1 p0.Places.length c_p0_1], .blk b2 84 [.int .i64 p1.Num, .int .i64 p1.Den], .row A3 xs5.length xs5.length 2 1 (ints xs277), .row A6 xs8.length xs8.length 2 1 (ints xs279)]) F ?_ ?_ ?_
    · exact ⟨xs5, xs8, (-1), 0, hl418, rfl, rfl, (Fr.pick (Fr.pick (Fr.pick (Fr.pick (Fr.pick (Fr.pick (Fr.pick hf.none hf rfl) hf rfl) hf rfl) hf rfl) hf rfl) hf rfl) hf rfl), hs⟩
    · rintro a w ⟨xs277, xs279, x281, x282, h0_, -, -, -, -⟩; simp [impl_betterCircuit_L4] at h0_
    · rintro n420 a w ⟨xs277, xs279, x281, x282, hm419, hn278, hn280, hf, hs⟩
      rw [impl_betterCircuit_L4] at hm419
      refine wpL_seq ?_
      refine wpL_region ?_
      refine sY hf hs rfl rfl rfl (Y_lss rfl rfl rfl) ?_; clear hf; intro a hf
      refine wpO_nil ?_
      refine wpL_seq ?_
      refine wpL_cond hf rfl (fun hb421 => ?_) (fun hb421 => ?_)
      · have hm419 := bif_t hm419 hb421
        refine wpL_skip ?_
        refine wpL_seq ?_
        refine wpL_block0 ?_
        refine wpL_seq ?_
        refine wpL_region ?_
        refine sY hf hs rfl rfl rfl (Y_assign rfl rfl) ?_; clear hf; intro a hf
        refine wpO_nil ?_
        refine wpL_seq ?_
        refine wpL_seq ?_
        refine wpL_region ?_
        refine sY hf hs rfl rfl rfl (Y_fieldAddr rfl rfl fo30_1) ?_; clear hf; intro a hf
        refine sY hf hs rfl rfl rfl (Y_load_blk rfl rfl (i := 0) rfl rfl ag28) ?_; clear hf; intro a hf
        refine sY hf hs rfl rfl rfl (Y_lenH rfl rfl el28 rfl) ?_; clear hf; intro a hf
        refine sY hf hs rfl rfl rfl (Y_move rfl rfl) ?_; clear hf; intro a hf
        refine wpO_nil ?_
        obtain ⟨r520, hl521, hm419⟩ := bind_some hm419
        refine wpL_block (fun a w => ∃ xs515 : List Int, ∃ xs517 : List Int, ∃ x519 : Int, (xs515, xs517, x519) = r520 ∧ xs5.length = xs515.length ∧ xs8.length = xs517.length ∧ Fr a 101 [(2, .pointer (some ⟨b1, 0, none⟩)), (3, .pointer (some ⟨b2, 0, none⟩)), (5, .slice A3 xs5.length xs5.length), (6, .slice A6 xs8.length xs8.length), (7, .int .i64 x519), (21, .int .i64 (IntKind.i64.wrap (p0.Events + 1))), (22, .int .i64 x282)] ∧ St [] W w [.blk b1 30 [.int .i64 p0.Events, .slice A_p0_1 p0.Places.length c_p0_1], .blk b2 84 [.int .i64 p1.Num, .int .i64 p1.Den], .row A3 xs5.length xs5.length 2 1 (ints xs515), .row A6 xs8.length xs8.length 2 1 (ints xs517)]) ?_ ?_
        · refine wpL_loop (fun n a w => ∃ xs482 : List Int, ∃ xs484 : List Int, ∃ x486 : Int, ∃ x487 : Int, impl_betterCircuit_L5 F p0 p1 n xs482 xs484 x486 x487 = some r520 ∧ xs5.length = xs482.length ∧ xs8.length = xs484.length ∧ Fr a 101 [(2, .pointer (some ⟨b1, 0, none⟩)), (3, .pointer (some ⟨b2, 0, none⟩)), (5, .slice A3 xs5.length xs5.length), (6, .slice A6 xs8.length xs8.length), (7, .int .i64 x486), (21, .int .i64 (IntKind.i64.wrap (p0.Events + 1))), (22, .int .i64 x282), (25, .slice A_p0_1 p0.Places.length c_p0_1), (26, .int .i64 (p0.Places.length : Int)), (27, .int .i64 x487)] ∧ St [] W w [.blk b1 30 [.int .i64 p0.Events, .slice A_p0_1 p0.Places.length c_p0_1], .blk b2 84 [.int .i64 p1.Num, .int .i64 p1.Den], .row A3 xs5.length xs5.length 2 1 (ints xs482), .row A6 xs8.length xs8.length 2 1 (ints xs484)]) F ?_ ?_ ?_
          · exact ⟨xs277, xs279, (-1), 0, hl521, hn278, hn280, (Fr.pick (Fr.pick (Fr.pick (Fr.pick (Fr.pick (Fr.pick (Fr.pick (Fr.pick (Fr.pick (Fr.pick hf.none hf rfl) hf rfl) hf rfl) hf rfl) hf rfl) hf rfl) hf rfl) hf rfl) hf rfl) hf rfl), hs⟩
          · rintro a w ⟨xs482, xs484, x486, x487, h0_, -, -, -, -⟩; simp [impl_betterCircuit_L5] at h0_
          · rintro n523 a w ⟨xs482, xs484, x486, x487, hm522, hn483, hn485, hf, hs⟩
            rw [impl_betterCircuit_L5] at hm522
            refine wpL_seq ?_
            refine wpL_region ?_
            refine sY hf hs rfl rfl rfl (Y_lss rfl rfl rfl) ?_; clear hf; intro a hf
            refine wpO_nil ?_
            refine wpL_seq ?_
            refine wpL_cond hf rfl (fun hb524 => ?_) (fun hb524 => ?_)
            · have hm522 := bif_t hm522 hb524
              refine wpL_skip ?_
              refine wpL_seq ?_
              refine wpL_block0 ?_
              refine wpL_seq ?_
              refine wpL_region ?_
              refine sY hf hs rfl rfl rfl (Y_move rfl rfl) ?_; clear hf; intro a hf
              obtain ⟨q525, hi526, hm522⟩ := bind_some hm522
              obtain ⟨hi526a, hi526b, hi526q⟩ := idx_some hi526
              refine sY hf hs rfl rfl rfl (Y_index rfl rfl rfl el28 ti120 (Rd.isAt (h_p0_1.at hs) (recs_at (s := 4) GPlace.len hi526q (j := 0) rfl)) hi526a hi526b) ?_; clear hf; intro a hf
              refine sY hf hs rfl rfl rfl (Y_load_rdS rfl rfl (us := [.int .i64 q525.From, .int .i64 q525.To, .int .i64 q525.Delay, .int .i64 q525.Tokens]) (fun w hs => h_p0_1.at hs) (fun j u hj => recs_at (s := 4) GPlace.len hi526q hj) (Nat.succ_pos _) ag120 ti120 rfl) ?_; clear hf; intro a hf
              refine sAlloc hf hs rfl rfl rfl rfl ti120 ?_; clear hf hs; intro a w b527 hs hf
              have hs : St [] W w [.blk b1 30 [.int .i64 p0.Events, .slice A_p0_1 p0.Places.length c_p0_1], .blk b2 84 [.int .i64 p1.Num, .int .i64 p1.Den], .row A3 xs5.length xs5.length 2 1 (ints xs482), .row A6 xs8.length xs8.length 2 1 (ints xs484), .blk b527 120 [.int .i64 0, .int .i64 0, .int .i64 0, .int .i64 0]] := hs
              refine sY hf hs rfl rfl rfl (Y_assign rfl rfl) ?_; clear hf; intro a hf
              refine sStore (i := 4) (us := [.int .i64 q525.From, .int .i64 q525.To, .int .i64 q525.Delay, .int .i64 q525.Tokens]) hf hs rfl rfl rfl rfl rfl rfl ti120 rfl rfl rfl (Nat.le_of_ble_eq_true rfl) rfl ?_; clear hs; intro w hs
              have hs : St [] W w [.blk b1 30 [.int .i64 p0.Events, .slice A_p0_1 p0.Places.length c_p0_1], .blk b2 84 [.int .i64 p1.Num, .int .i64 p1.Den], .row A3 xs5.length xs5.length 2 1 (ints xs482), .row A6 xs8.length xs8.length 2 1 (ints xs484), .blk b527 120 [.int .i64 q525.From, .int .i64 q525.To, .int .i64 q525.Delay, .int .i64 q525.Tokens]] := hs
              refine wpO_nil ?_
              refine wpL_seq ?_
              refine wpL_draw (by kernel_rfl) (by kernel_rfl) hs ?_
              refine qY hf rfl rfl rfl (Y_move rfl rfl) ?_; clear hf; intro a hf
              refine qY hf rfl rfl rfl (Y_fieldAddr rfl rfl fo120_0) ?_; clear hf; intro a hf
              refine qY hf rfl rfl rfl (Y_load_blk rfl rfl (i := 4) rfl rfl ag2) ?_; clear hf; intro a hf
              obtain ⟨q528, hi529, hm522⟩ := bind_some hm522
              obtain ⟨hi529a, hi529b, hi529q⟩ := idx_some hi529
              refine qY hf rfl rfl rfl (Y_index rfl rfl rfl el36 ti2 (Rd.isAt (hs.rd (i := 2) rfl) (at1 (ints_at hi529q))) hi529a (ltn hn483 hi529b)) ?_; clear hf; intro a hf
              refine qY hf rfl rfl rfl (Y_load_rd rfl rfl (fun w hs => hs.rd (i := 2) rfl) (at1 (ints_at hi529q)) ag2) ?_; clear hf; intro a hf
              refine qY hf rfl rfl rfl (Y_load_blkS rfl rfl (i := 4) rfl ag120 ti120 rfl) ?_; clear hf; intro a hf
              refine qY hf rfl rfl rfl (Y_load_blkS rfl rfl (i := 1) rfl ag84 ti84 rfl) ?_; clear hf; intro a hf
              obtain ⟨r530, hc531, hm522⟩ := bind_some hm522
              refine qCall hf rfl rfl rfl rfl (cap := []) rfl rfl en127 (v := .int .i64 r530) (fun w hs => Calls.scal (impl_placeWeight_ok F q525 p1 _ _ hc531)) ?_; clear hf; intro a hf
              refine qY hf rfl rfl rfl (Y_add rfl rfl rfl) ?_; clear hf; intro a hf
              refine qY hf rfl rfl rfl (Y_assign rfl rfl) ?_; clear hf; intro a hf
              refine qNil ?_; clear hs; intro w hs
              refine wpL_seq ?_
              refine wpL_region ?_
              refine sY hf hs rfl rfl rfl (Y_move rfl rfl) ?_; clear hf; intro a hf
              refine sY hf hs rfl rfl rfl (Y_move rfl rfl) ?_; clear hf; intro a hf
              refine sY hf hs rfl rfl rfl (Y_fieldAddr rfl rfl fo120_1) ?_; clear hf; intro a hf
              refine sY hf hs rfl rfl rfl (Y_load_blk rfl rfl (i := 4) rfl rfl ag2) ?_; clear hf; intro a hf
              obtain ⟨q532, hi533, hm522⟩ := bind_some hm522
              obtain ⟨hi533a, hi533b, hi533q⟩ := idx_some hi533
              refine sY hf hs rfl rfl rfl (Y_index rfl rfl rfl el36 ti2 (Rd.isAt (hs.rd (i := 2) rfl) (at1 (ints_at hi533q))) hi533a (ltn hn483 hi533b)) ?_; clear hf; intro a hf
              refine sY hf hs rfl rfl rfl (Y_load_rd rfl rfl (fun w hs => hs.rd (i := 2) rfl) (at1 (ints_at hi533q)) ag2) ?_; clear hf; intro a hf
              refine sY hf hs rfl rfl rfl (Y_gtr rfl rfl rfl) ?_; clear hf; intro a hf
              refine wpO_nil ?_
              refine wpL_cond hf rfl (fun hb534 => ?_) (fun hb534 => ?_)
              · have hm522 := bif_t hm522 hb534
                refine wpL_drawM [.blk b1 30 [.int .i64 p0.Events, .slice A_p0_1 p0.Places.length c_p0_1], .blk b2 84 [.int .i64 p1.Num, .int .i64 p1.Den], .blk b527 120 [.int .i64 q525.From, .int .i64 q525.To, .int .i64 q525.Delay, .int .i64 q525.Tokens]] [] (by kernel_rfl) hs ?_; clear hs; intro w hs
                have hs0 : St [] W w [.blk b1 30 [.int .i64 p0.Events, .slice A_p0_1 p0.Places.length c_p0_1], .blk b2 84 [.int .i64 p1.Num, .int .i64 p1.Den], .blk b527 120 [.int .i64 q525.From, .int .i64 q525.To, .int .i64 q525.Delay, .int .i64 q525.Tokens]] := hs.sel [0, 1, 4] (by decide)
                refine mYp (i := 0) rfl (by kernel_rfl) (by kernel_rfl) hf rfl rfl rfl (fun _ => Y_move rfl rfl) ?_; clear hf; intro a hf
                refine mYp (i := 1) rfl (by kernel_rfl) (by kernel_rfl) hf rfl rfl rfl (fun _ => Y_fieldAddr rfl rfl fo120_1) ?_; clear hf; intro a hf
                refine mY (i := 2) [] rfl (by kernel_rfl) (by kernel_rfl) hf hs0 rfl rfl rfl (Y_load_blk rfl rfl (i := 2) rfl rfl ag2) ?_; clear hf; intro a hf
                refine mYp (i := 3) rfl (by kernel_rfl) (by kernel_rfl) hf rfl rfl rfl (fun _ => Y_move rfl rfl) ?_; clear hf; intro a hf
                refine mYp (i := 4) rfl (by kernel_rfl) (by kernel_rfl) hf rfl rfl rfl (fun _ => Y_fieldAddr rfl rfl fo120_1) ?_; clear hf; intro a hf
                refine mY (i := 5) [] rfl (by kernel_rfl) (by kernel_rfl) hf hs0 rfl rfl rfl (Y_load_blk rfl rfl (i := 2) rfl rfl ag2) ?_; clear hf; intro a hf
                refine mYp (i := 6) rfl (by kernel_rfl) (by kernel_rfl) hf rfl rfl rfl (fun _ => Y_move rfl rfl) ?_; clear hf; intro a hf
                refine mYp (i := 7) rfl (by kernel_rfl) (by kernel_rfl) hf rfl rfl rfl (fun _ => Y_move rfl rfl) ?_; clear hf; intro a hf
                refine mYp (i := 8) rfl (by kernel_rfl) (by kernel_rfl) hf rfl rfl rfl (fun _ => Y_fieldAddr rfl rfl fo120_1) ?_; clear hf; intro a hf
                refine mY (i := 9) [] rfl (by kernel_rfl) (by kernel_rfl) hf hs0 rfl rfl rfl (Y_load_blk rfl rfl (i := 2) rfl rfl ag2) ?_; clear hf; intro a hf
                obtain ⟨q543, hi544, hm522⟩ := bind_some hm522
                obtain ⟨hi544a, hi544b, hi544q⟩ := idx_some hi544
                refine mYp (i := 10) rfl (by kernel_rfl) (by kernel_rfl) hf rfl rfl rfl (fun _ => Y_index rfl rfl rfl el36 ti2 (Rd.isAt (hs.rd (i := 2) rfl) (at1 (ints_at hi544q))) hi544a (ltn hn483 hi544b)) ?_; clear hf; intro a hf
                refine mRun (i := 11) rfl (by kernel_rfl) ?_
                obtain ⟨xs545, hu546, hm522⟩ := bind_some hm522
                refine sStoreL (i := 2) (us := [.int .i64 (IntKind.i64.wrap (q528 + r530))]) (enc := ints) hf hs rfl rfl rfl rfl rfl rfl hn483 hu546 ti2 rfl rfl rfl rfl rfl ints_len1 (ints_set (IntKind.i64.wrap (q528 + r530))) ?_; clear hs; intro w hs
                have hs : St [] W w [.blk b1 30 [.int .i64 p0.Events, .slice A_p0_1 p0.Places.length c_p0_1], .blk b2 84 [.int .i64 p1.Num, .int .i64 p1.Den], .row A3 xs5.length xs5.length 2 1 (ints xs545), .row A6 xs8.length xs8.length 2 1 (ints xs484), .blk b527 120 [.int .i64 q525.From, .int .i64 q525.To, .int .i64 q525.Delay, .int .i64 q525.Tokens]] := hs
                have hs0 : St [] W w [.blk b1 30 [.int .i64 p0.Events, .slice A_p0_1 p0.Places.length c_p0_1], .blk b2 84 [.int .i64 p1.Num, .int .i64 p1.Den], .blk b527 120 [.int .i64 q525.From, .int .i64 q525.To, .int .i64 q525.Delay, .int .i64 q525.Tokens]] := hs.sel [0, 1, 4] (by decide)
                refine wpO_nil ⟨Or.inr (fun _ => hs0), ?_⟩
                obtain ⟨q547, hi548, hm522⟩ := bind_some hm522
                obtain ⟨hi548a, hi548b, hi548q⟩ := idx_some hi548
                refine mYp (i := 12) rfl (by kernel_rfl) (by kernel_rfl) hf rfl rfl rfl (fun _ => Y_index rfl rfl rfl el36 ti2 (Rd.isAt (hs.rd (i := 3) rfl) (at1 (ints_at hi548q))) hi548a (ltn hn485 hi548b)) ?_; clear hf; intro a hf
                refine mRun (i := 13) rfl (by kernel_rfl) ?_
                obtain ⟨xs549, hu550, hm522⟩ := bind_some hm522
                refine sStoreL (i := 3) (us := [.int .i64 x487]) (enc := ints) hf hs rfl rfl rfl rfl rfl rfl hn485 hu550 ti2 rfl rfl rfl rfl rfl ints_len1 (ints_set x487) ?_; clear hs; intro w hs
                have hs : St [] W w [.blk b1 30 [.int .i64 p0.Events, .slice A_p0_1 p0.Places.length c_p0_1], .blk b2 84 [.int .i64 p1.Num, .int .i64 p1.Den], .row A3 xs5.length xs5.length 2 1 (ints xs545), .row A6 xs8.length xs8.length 2 1 (ints xs549), .blk b527 120 [.int .i64 q525.From, .int .i64 q525.To, .int .i64 q525.Delay, .int .i64 q525.Tokens]] := hs
                have hs0 : St [] W w [.blk b1 30 [.int .i64 p0.Events, .slice A_p0_1 p0.Places.length c_p0_1], .blk b2 84 [.int .i64 p1.Num, .int .i64 p1.Den], .blk b527 120 [.int .i64 q525.From, .int .i64 q525.To, .int .i64 q525.Delay, .int .i64 q525.Tokens]] := hs.sel [0, 1, 4] (by decide)
                refine wpO_nil ⟨Or.inr (fun _ => hs0), ?_⟩
                refine mYp (i := 14) rfl (by kernel_rfl) (by kernel_rfl) hf rfl rfl rfl (fun _ => Y_assign rfl rfl) ?_; clear hf; intro a hf
                refine mDone (by kernel_rfl) ?_
                clear hs0
                refine wpL_nil (Qb_normal ?_)
                refine wpL_region ?_
                refine sY hf hs rfl rfl rfl (Y_add rfl rfl rfl) ?_; clear hf; intro a hf
                refine sY hf hs rfl rfl rfl (Y_move rfl rfl) ?_; clear hf; intro a hf
                refine wpO_nil ?_
                refine wpL_nil (Ql_normal ?_)
                exact ⟨xs545, xs549, q525.To, (IntKind.i64.wrap (x487 + 1)), hm522, ((hn483).trans (upd_len hu546).symm), ((hn485).trans (upd_len hu550).symm), (Fr.pick (Fr.pick (Fr.pick (Fr.pick (Fr.pick (Fr.pick (Fr.pick (Fr.pick (Fr.pick (Fr.pick hf.none hf rfl) hf rfl) hf rfl) hf rfl) hf rfl) hf rfl) hf rfl) hf rfl) hf rfl) hf rfl), hs.sel [0, 1, 2, 3] (by decide)⟩
              · have hm522 := bif_f hm522 hb534
                refine wpL_skip ?_
                refine wpL_nil (Qb_normal ?_)
                refine wpL_region ?_
                refine sY hf hs rfl rfl rfl (Y_add rfl rfl rfl) ?_; clear hf; intro a hf
                refine sY hf hs rfl rfl rfl (Y_move rfl rfl) ?_; clear hf; intro a hf
                refine wpO_nil ?_
                refine wpL_nil (Ql_normal ?_)
                exact ⟨xs482, xs484, x486, (IntKind.i64.wrap (x487 + 1)), hm522, hn483, hn485, (Fr.pick (Fr.pick (Fr.pick (Fr.pick (Fr.pick (Fr.pick (Fr.pick (Fr.pick (Fr.pick (Fr.pick hf.none hf rfl) hf rfl) hf rfl) hf rfl) hf rfl) hf rfl) hf rfl) hf rfl) hf rfl) hf rfl), hs.sel [0, 1, 2, 3] (by decide)⟩
            · have hm522 := bif_f hm522 hb524
              refine wpL_exit (Ql_exit (Qb_exit ?_))
              exact ⟨xs482, xs484, x486, Option.some.inj hm522, hn483, hn485, (Fr.pick (Fr.pick (Fr.pick (Fr.pick (Fr.pick (Fr.pick (Fr.pick hf.none hf rfl) hf rfl) hf rfl) hf rfl) hf rfl) hf rfl) hf rfl), hs⟩
        · rintro a w ⟨xs515, xs517, x519, hr_, hn516, hn518, hf, hs⟩
          subst hr_
          try dsimp only at hm419
          refine wpL_seq ?_
          refine wpL_region ?_
          refine sY hf hs rfl rfl rfl (Y_move rfl rfl) ?_; clear hf; intro a hf
          refine sY hf hs rfl rfl rfl (Y_lss rfl rfl rfl) ?_; clear hf; intro a hf
          refine wpO_nil ?_
          refine wpL_cond hf rfl (fun hb551 => ?_) (fun hb551 => ?_)
          · have hm419 := bif_t hm419 hb551
            refine wpL_seq ?_
            refine wpL_region ?_
            refine sY hf hs rfl rfl rfl (Y_assign rfl rfl) ?_; clear hf; intro a hf
            refine wpO_nil ?_
            have hs : St [] W _ [.blk b1 30 [.int .i64 p0.Events, .slice A_p0_1 p0.Places.length c_p0_1], .blk b2 84 [.int .i64 p1.Num, .int .i64 p1.Den], .row A3 xs5.length xs5.length 2 1 (ints xs515), .row A6 xs8.length xs8.length 2 1 (ints xs517), .row none 0 0 2 1 (ints ([] : List Int))] := hs.addNil 2 1
            obtain rfl := Option.some.inj hm419
            try dsimp only at hm
            obtain rfl := Option.some.inj hm
            refine wpL_ret (Qb_ret (Ql_ret (Qb_ret (ret_tmp rfl hf rfl ?_))))
            exact ⟨_, rfl, none, 0, 0, rfl, rfl, (fun _ => rfl), hs.sel [4] (by decide)⟩
          · have hm419 := bif_f hm419 hb551
            refine wpL_skip ?_
            refine wpL_nil (Qb_normal ?_)
            refine wpL_region ?_
            refine sY hf hs rfl rfl rfl (Y_add rfl rfl rfl) ?_; clear hf; intro a hf
            refine sY hf hs rfl rfl rfl (Y_move rfl rfl) ?_; clear hf; intro a hf
            refine wpO_nil ?_
            refine wpL_nil (Ql_normal ?_)
            exact ⟨xs515, xs517, x519, (IntKind.i64.wrap (x282 + 1)), hm419, hn516, hn518, (Fr.pick (Fr.pick (Fr.pick (Fr.pick (Fr.pick (Fr.pick (Fr.pick hf.none hf rfl) hf rfl) hf rfl) hf rfl) hf rfl) hf rfl) hf rfl), hs⟩
      · have hm419 := bif_f hm419 hb421
        refine wpL_exit (Ql_exit (Qb_exit ?_))
        exact ⟨xs279, x281, Option.some.inj hm419, hn280, (Fr.pick (Fr.pick (Fr.pick hf.none hf rfl) hf rfl) hf rfl), hs.sel [0, 3] (by decide)⟩
  · rintro a w ⟨xs414, x416, hr_, hn415, hf, hs⟩
    subst hr_
    try dsimp only at hm
    refine wpL_seq ?_
    refine wpL_seq ?_
    refine wpL_region ?_
    refine sY hf hs rfl rfl rfl (Y_fieldAddr rfl rfl fo30_0) ?_; clear hf; intro a hf
    refine sY hf hs rfl rfl rfl (Y_load_blk rfl rfl (i := 0) rfl rfl ag2) ?_; clear hf; intro a hf
    refine sY hf hs rfl rfl rfl (Y_move rfl rfl) ?_; clear hf; intro a hf
    refine wpO_nil ?_
    obtain ⟨r573, hl574, hm⟩ := bind_some hm
    refine wpL_block (fun a w => ∃ x572 : Int, x572 = r573 ∧ Fr a 101 [(2, .pointer (some ⟨b1, 0, none⟩)), (6, .slice A6 xs8.length xs8.length), (7, .int .i64 x572)] ∧ St [] W w [.blk b1 30 [.int .i64 p0.Events, .slice A_p0_1 p0.Places.length c_p0_1], .row A6 xs8.length xs8.length 2 1 (ints xs414)]) ?_ ?_
    · refine wpL_loop (fun n a w => ∃ x565 : Int, ∃ x566 : Int, impl_betterCircuit_L6 F p0 xs414 n x565 x566 = some r573 ∧ Fr a 101 [(2, .pointer (some ⟨b1, 0, none⟩)), (6, .slice A6 xs8.length xs8.length), (7, .int .i64 x565), (65, .int .i64 p0.Events), (66, .int .i64 x566)] ∧ St [] W w [.blk b1 30 [.int .i64 p0.Events, .slice A_p0_1 p0.Places.length c_p0_1], .row A6 xs8.length xs8.length 2 1 (ints xs414)]) F ?_ ?_ ?_
      · exact ⟨x416, 0, hl574, (Fr.pick (Fr.pick (Fr.pick (Fr.pick (Fr.pick hf.none hf rfl) hf rfl) hf rfl) hf rfl) hf rfl), hs⟩
      · rintro a w ⟨x565, x566, h0_, -, -⟩; simp [impl_betterCircuit_L6] at h0_
      · rintro n576 a w ⟨x565, x566, hm575, hf, hs⟩
        rw [impl_betterCircuit_L6] at hm575
        refine wpL_seq ?_
        refine wpL_region ?_
        refine sY hf hs rfl rfl rfl (Y_lss rfl rfl rfl) ?_; clear hf; intro a hf
        refine wpO_nil ?_
        refine wpL_seq ?_
        refine wpL_cond hf rfl (fun hb577 => ?_) (fun hb577 => ?_)
        · have hm575 := bif_t hm575 hb577
          refine wpL_skip ?_
          refine wpL_seq ?_
          refine wpL_block0 ?_
          refine wpL_draw (by kernel_rfl) (by kernel_rfl) hs ?_
          refine qY hf rfl rfl rfl (Y_fieldAddr rfl rfl fo30_1) ?_; clear hf; intro a hf
          refine qY hf rfl rfl rfl (Y_load_blk rfl rfl (i := 0) rfl rfl ag28) ?_; clear hf; intro a hf
          refine qY hf rfl rfl rfl (Y_move rfl rfl) ?_; clear hf; intro a hf
          refine qY hf rfl rfl rfl (Y_move rfl rfl) ?_; clear hf; intro a hf
          obtain ⟨q578, hi579, hm575⟩ := bind_some hm575
          obtain ⟨hi579a, hi579b, hi579q⟩ := idx_some hi579
          refine qY hf rfl rfl rfl (Y_index rfl rfl rfl el36 ti2 (Rd.isAt (hs.rd (i := 1) rfl) (at1 (ints_at hi579q))) hi579a (ltn hn415 hi579b)) ?_; clear hf; intro a hf
          refine qY hf rfl rfl rfl (Y_load_rd rfl rfl (fun w hs => hs.rd (i := 1) rfl) (at1 (ints_at hi579q)) ag2) ?_; clear hf; intro a hf
          obtain ⟨q580, hi581, hm575⟩ := bind_some hm575
          obtain ⟨hi581a, hi581b, hi581q⟩ := idx_some hi581
          refine qY hf rfl rfl rfl (Y_index rfl rfl rfl el28 ti120 (Rd.isAt (h_p0_1.at hs) (recs_at (s := 4) GPlace.len hi581q (j := 0) rfl)) hi581a hi581b) ?_; clear hf; intro a hf
          refine qY hf rfl rfl rfl (Y_fieldAddrE rfl rfl fo120_0) ?_; clear hf; intro a hf
          refine qY hf rfl rfl rfl (Y_load_rd rfl rfl (fun w hs => h_p0_1.at hs) (recs_at (s := 4) GPlace.len hi581q (j := 0) rfl) ag2) ?_; clear hf; intro a hf
          refine qY hf rfl rfl rfl (Y_assign rfl rfl) ?_; clear hf; intro a hf
          refine qNil ?_; clear hs; intro w hs
          refine wpL_nil (Qb_normal ?_)
          refine wpL_region ?_
          refine sY hf hs rfl rfl rfl (Y_add rfl rfl rfl) ?_; clear hf; intro a hf
          refine sY hf hs rfl rfl rfl (Y_move rfl rfl) ?_; clear hf; intro a hf
          refine wpO_nil ?_
          refine wpL_nil (Ql_normal ?_)
          exact ⟨q580.From, (IntKind.i64.wrap (x566 + 1)), hm575, (Fr.pick (Fr.pick (Fr.pick (Fr.pick (Fr.pick hf.none hf rfl) hf rfl) hf rfl) hf rfl) hf rfl), hs⟩
        · have hm575 := bif_f hm575 hb577
          refine wpL_exit (Ql_exit (Qb_exit ?_))
          exact ⟨x565, Option.some.inj hm575, (Fr.pick (Fr.pick (Fr.pick hf.none hf rfl) hf rfl) hf rfl), hs⟩
    · rintro a w ⟨x572, hr_, hf, hs⟩
      subst hr_
      try dsimp only at hm
      refine wpL_seq ?_
      refine wpL_region ?_
      refine sY hf hs rfl rfl rfl (Y_assign rfl rfl) ?_; clear hf; intro a hf
      refine wpO_nil ?_
      refine wpL_seq ?_
      refine wpL_seq ?_
      refine wpL_region ?_
      refine sY hf hs rfl rfl rfl (Y_move rfl rfl) ?_; clear hf; intro a hf
      refine sY hf hs rfl rfl rfl (Y_assign rfl rfl) ?_; clear hf; intro a hf
      refine wpO_nil ?_
      obtain ⟨r641, hl642, hm⟩ := bind_some hm
      have hs : St [] W _ [.blk b1 30 [.int .i64 p0.Events, .slice A_p0_1 p0.Places.length c_p0_1], .row A6 xs8.length xs8.length 2 1 (ints xs414), .row none 0 0 2 1 (ints ([] : List Int))] := hs.addNil 2 1
      refine wpL_block (fun a w => ∃ xs636 : List Int, ∃ A637, ∃ n638, ∃ c639, xs636 = r641 ∧ n638 = xs636.length ∧ Fr a 101 [(11, .slice A637 n638 c639)] ∧ St [] W w [.row A637 n638 c639 2 1 (ints xs636)]) ?_ ?_
      · refine wpL_loop (fun n a w => ∃ xs617 : List Int, ∃ x622 : Int, ∃ A618, ∃ n619, ∃ c620, impl_betterCircuit_L7 F p0 xs414 x572 n xs617 x622 = some r641 ∧ n619 = xs617.length ∧ Fr a 101 [(2, .pointer (some ⟨b1, 0, none⟩)), (6, .slice A6 xs8.length xs8.length), (7, .int .i64 x572), (11, .slice A618 n619 c620), (12, .int .i64 x622)] ∧ St [] W w [.blk b1 30 [.int .i64 p0.Events, .slice A_p0_1 p0.Places.length c_p0_1], .row A6 xs8.length xs8.length 2 1 (ints xs414), .row A618 n619 c620 2 1 (ints xs617)]) F ?_ ?_ ?_
        · exact ⟨([] : List Int), x572, none, 0, 0, hl642, rfl, (Fr.pick (Fr.pick (Fr.pick (Fr.pick (Fr.pick hf.none hf rfl) hf rfl) hf rfl) hf rfl) hf rfl), hs⟩
        · rintro a w ⟨xs617, x622, A618, n619, c620, h0_, -, -, -⟩; simp [impl_betterCircuit_L7] at h0_
        · rintro n644 a w ⟨xs617, x622, A618, n619, c620, hm643, hn621, hf, hs⟩
          rw [impl_betterCircuit_L7] at hm643
          refine wpL_block0 ?_
          refine wpL_seq ?_
          refine wpL_region ?_
          refine sY hf hs rfl rfl rfl (Y_move rfl rfl) ?_; clear hf; intro a hf
          refine sY hf hs rfl rfl rfl (Y_move rfl rfl) ?_; clear hf; intro a hf
          refine sY hf hs rfl rfl rfl (Y_move rfl rfl) ?_; clear hf; intro a hf
          obtain ⟨q645, hi646, hm643⟩ := bind_some hm643
          obtain ⟨hi646a, hi646b, hi646q⟩ := idx_some hi646
          refine sY hf hs rfl rfl rfl (Y_index rfl rfl rfl el36 ti2 (Rd.isAt (hs.rd (i := 1) rfl) (at1 (ints_at hi646q))) hi646a (ltn hn415 hi646b)) ?_; clear hf; intro a hf
          refine sY hf hs rfl rfl rfl (Y_load_rd rfl rfl (fun w hs => hs.rd (i := 1) rfl) (at1 (ints_at hi646q)) ag2) ?_; clear hf; intro a hf
          refine sBuildSlice (parts := [(0, .tmp 83)]) (vs := [.int .i64 q645]) (cells := [.int .i64 q645]) hf hs rfl rfl rfl rfl rfl el36 ti2 rfl rfl rfl rfl ?_; clear hf hs; intro a w A647 hs hA648 hf
          have hs : St [] W w [.blk b1 30 [.int .i64 p0.Events, .slice A_p0_1 p0.Places.length c_p0_1], .row A6 xs8.length xs8.length 2 1 (ints xs414), .row A618 n619 c620 2 1 (ints xs617), .row A647 1 1 2 1 (ints ([q645]))] := hs
          obtain ⟨xs651, ha652, hm643⟩ := bind_some hm643
          refine sAppendL (i := 2) (xs := xs617) (ys := [q645]) (enc := ints) hf hs rfl rfl rfl rfl rfl rfl hn621 rfl rfl ha652 el36 ti2 rfl rfl rfl (hs.rd (i := 3) rfl) (Nat.succ_pos _) ints_len1 ints_append ints_one ?_; clear hf hs; intro a w A649 c650 hs hf
          have hs : St [] W w [.blk b1 30 [.int .i64 p0.Events, .slice A_p0_1 p0.Places.length c_p0_1], .row A6 xs8.length xs8.length 2 1 (ints xs414), .row A649 xs651.length c650 2 1 (ints xs651), .row A647 1 1 2 1 (ints ([q645]))] := hs
          refine sY hf hs rfl rfl rfl (Y_assign rfl rfl) ?_; clear hf; intro a hf
          refine wpO_nil ?_
          refine wpL_seq ?_
          refine wpL_draw (by kernel_rfl) (by kernel_rfl) hs ?_
          refine qY hf rfl rfl rfl (Y_fieldAddr rfl rfl fo30_1) ?_; clear hf; intro a hf
          refine qY hf rfl rfl rfl (Y_load_blk rfl rfl (i := 0) rfl rfl ag28) ?_; clear hf; intro a hf
          refine qY hf rfl rfl rfl (Y_move rfl rfl) ?_; clear hf; intro a hf
          refine qY hf rfl rfl rfl (Y_move rfl rfl) ?_; clear hf; intro a hf
          obtain ⟨q653, hi654, hm643⟩ := bind_some hm643
          obtain ⟨hi654a, hi654b, hi654q⟩ := idx_some hi654
          refine qY hf rfl rfl rfl (Y_index rfl rfl rfl el36 ti2 (Rd.isAt (hs.rd (i := 1) rfl) (at1 (ints_at hi654q))) hi654a (ltn hn415 hi654b)) ?_; clear hf; intro a hf
          refine qY hf rfl rfl rfl (Y_load_rd rfl rfl (fun w hs => hs.rd (i := 1) rfl) (at1 (ints_at hi654q)) ag2) ?_; clear hf; intro a hf
          obtain ⟨q655, hi656, hm643⟩ := bind_some hm643
          obtain ⟨hi656a, hi656b, hi656q⟩ := idx_some hi656
          refine qY hf rfl rfl rfl (Y_index rfl rfl rfl el28 ti120 (Rd.isAt (h_p0_1.at hs) (recs_at (s := 4) GPlace.len hi656q (j := 0) rfl)) hi656a hi656b) ?_; clear hf; intro a hf
          refine qY hf rfl rfl rfl (Y_fieldAddrE rfl rfl fo120_0) ?_; clear hf; intro a hf
          refine qY hf rfl rfl rfl (Y_load_rd rfl rfl (fun w hs => h_p0_1.at hs) (recs_at (s := 4) GPlace.len hi656q (j := 0) rfl) ag2) ?_; clear hf; intro a hf
          refine qY hf rfl rfl rfl (Y_assign rfl rfl) ?_; clear hf; intro a hf
          refine qNil ?_; clear hs; intro w hs
          refine wpL_seq ?_
          refine wpL_region ?_
          refine sY hf hs rfl rfl rfl (Y_move rfl rfl) ?_; clear hf; intro a hf
          refine sY hf hs rfl rfl rfl (Y_move rfl rfl) ?_; clear hf; intro a hf
          refine sY hf hs rfl rfl rfl (Y_eql rfl rfl rfl) ?_; clear hf; intro a hf
          refine wpO_nil ?_
          refine wpL_cond hf rfl (fun hb657 => ?_) (fun hb657 => ?_)
          · have hm643 := bif_t hm643 hb657
            refine wpL_exit (Qb_exit_ne rfl (Ql_exit (Qb_exit ?_)))
            exact ⟨xs651, A649, xs651.length, c650, Option.some.inj hm643, rfl, (Fr.pick hf.none hf rfl), hs.sel [2] (by decide)⟩
          · have hm643 := bif_f hm643 hb657
            refine wpL_skip ?_
            refine wpL_nil (Qb_normal ?_)
            refine wpL_nil (Ql_normal ?_)
            exact ⟨xs651, q655.From, A649, xs651.length, c650, hm643, rfl, (Fr.pick (Fr.pick (Fr.pick (Fr.pick (Fr.pick hf.none hf rfl) hf rfl) hf rfl) hf rfl) hf rfl), hs.sel [0, 1, 2] (by decide)⟩
      · rintro a w ⟨xs636, A637, n638, c639, hr_, hn640, hf, hs⟩
        subst hr_
        try dsimp only at hm
        refine wpL_seq ?_
        refine wpL_region ?_
        refine sY hf hs rfl rfl rfl (Y_move rfl rfl) ?_; clear hf; intro a hf
        obtain ⟨r658, hc659, hm⟩ := bind_some hm
        refine sCall hf rfl rfl rfl rfl (cap := []) rfl rfl en128 (slices_Reverse_int64_ok F xs636 A637 n638 c639 hn640 _ _ hc659 (hs.res _ _ (show _[0]? = some _ from rfl))) ?_; clear hf
        rintro _ w ⟨rfl, hn660, hs1⟩ a hf
        have hs : St [] W w [.row A637 n638 c639 2 1 (ints r658.2)] := hs.mut (i := 0) rfl (fun b hb => muA_mem hb) hs1
        clear hs1
        refine wpO_nil ?_
        refine wpL_seq ?_
        refine wpL_region ?_
        refine sY hf hs rfl rfl rfl (Y_move rfl rfl) ?_; clear hf; intro a hf
        refine sY hf hs rfl rfl rfl (Y_assign rfl rfl) ?_; clear hf; intro a hf
        refine wpO_nil ?_
        obtain ⟨_, hne661, hm⟩ := bind_some hm
        obtain rfl := Option.some.inj hm
        refine wpL_ret (ret_tmp rfl hf rfl ?_)
        exact ⟨_, rfl, A637, n638, c639, rfl, hn660, (fun h_ => absurd h_ (nonE_some hne661)), hs⟩

set_option maxHeartbeats 2000000 in
set_option maxRecDepth 100000 in
theorem impl_conflictSearch_goOn_step (F k_ : Nat) (ih_ : ∀ (b_p0 : Nat) (p0_graph_Events : Int) (p0_graph_Places : List GPlace) (A_p0_graph_Places : Option Addr) (n_p0_graph_Places c_p0_graph_Places : Nat) (_hn_p0_graph_Places : n_p0_graph_Places = p0_graph_Places.length) (p0_period : Int) (p0_path : List Int) (A_p0_path : Option Addr) (n_p0_path c_p0_path : Nat) (_hn_p0_path : n_p0_path = p0_path.length) (p0_seen : List Bool) (A_p0_seen : Option Addr) (n_p0_seen c_p0_seen : Nat) (_hn_p0_seen : n_p0_seen = p0_seen.length) (p1 : Int) (p2 : Int) (p3 : Int) (r : (Bool) × Int × Int × (List Int) × (List Bool)) (W : World) (_hm : impl_conflictSearch_goOn_rec F k_ p0_graph_Events p0_graph_Places p0_period p0_path p0_seen p1 p2 p3 = some r) (_h_p0_graph_Places : KR (muL [.blk b_p0 151 [.int .i64 p0_graph_Events, .slice A_p0_graph_Places n_p0_graph_Places c_p0_graph_Places, .int .i64 p0_period, .slice A_p0_path n_p0_path c_p0_path, .slice A_p0_seen n_p0_seen c_p0_seen], .row A_p0_path n_p0_path c_p0_path 2 1 (ints p0_path), .row A_p0_seen n_p0_seen c_p0_seen 4 1 (bools p0_seen)]) W A_p0_graph_Places ((recs GPlace.cells) p0_graph_Places)) (_hst : St (muL [.blk b_p0 151 [.int .i64 p0_graph_Events, .slice A_p0_graph_Places n_p0_graph_Places c_p0_graph_Places, .int .i64 p0_period, .slice A_p0_path n_p0_path c_p0_path, .slice A_p0_seen n_p0_seen c_p0_seen], .row A_p0_path n_p0_path c_p0_path 2 1 (ints p0_path), .row A_p0_seen n_p0_seen c_p0_seen 4 1 (bools p0_seen)]) W W [.blk b_p0 151 [.int .i64 p0_graph_Events, .slice A_p0_graph_Places n_p0_graph_Places c_p0_graph_Places, .int .i64 p0_period, .slice A_p0_path n_p0_path c_p0_path, .slice A_p0_seen n_p0_seen c_p0_seen], .row A_p0_path n_p0_path c_p0_path 2 1 (ints p0_path), .row A_p0_seen n_p0_seen c_p0_seen 4 1 (bools p0_seen)]), Calls Try.prog 139 [.pointer (some ⟨b_p0, 0, none⟩), .int .i64 p1, .int .i64 p2, .int .i64 p3].toArray W fun e w' => ∃ v, e = .returned v ∧ ∃ A3_, ∃ n3_, ∃ c3_, ∃ A4_, ∃ n4_, ∃ c4_, v = .bool r.1 ∧ n3_ = r.2.2.2.1.length ∧ n4_ = r.2.2.2.2.length ∧ St (muL [.blk b_p0 151 [.int .i64 p0_graph_Events, .slice A_p0_graph_Places n_p0_graph_Places c_p0_graph_Places, .int .i64 p0_period, .slice A_p0_path n_p0_path c_p0_path, .slice A_p0_seen n_p0_seen c_p0_seen], .row A_p0_path n_p0_path c_p0_path 2 1 (ints p0_path), .row A_p0_seen n_p0_seen c_p0_seen 4 1 (bools p0_seen)]) W w' [.blk b_p0 151 [.int .i64 r.2.1, .slice A_p0_graph_Places n_p0_graph_Places c_p0_graph_Places, .int .i64 r.2.2.1, .slice A3_ n3_ c3_, .slice A4_ n4_ c4_], .row A3_ n3_ c3_ 2 1 (ints r.2.2.2.1), .row A4_ n4_ c4_ 4 1 (bools r.2.2.2.2)]) (b_p0 : Nat) (p0_graph_Events : Int) (p0_graph_Places : List GPlace) (A_p0_graph_Places : Option Addr) (n_p0_graph_Places c_p0_graph_Places : Nat) (hn_p0_graph_Places : n_p0_graph_Places = p0_graph_Places.length) (p0_period : Int) (p0_path : List Int) (A_p0_path : Option Addr) (n_p0_path c_p0_path : Nat) (hn_p0_path : n_p0_path = p0_path.length) (p0_seen : List Bool) (A_p0_seen : Option Addr) (n_p0_seen c_p0_seen : Nat) (hn_p0_seen : n_p0_seen = p0_seen.length) (p1 : Int) (p2 : Int) (p3 : Int) (r : (Bool) × Int × Int × (List Int) × (List Bool)) (W : World) (hm : impl_conflictSearch_goOn_rec F (k_ + 1) p0_graph_Events p0_graph_Places p0_period p0_path p0_seen p1 p2 p3 = some r) (h_p0_graph_Places : KR (muL [.blk b_p0 151 [.int .i64 p0_graph_Events, .slice A_p0_graph_Places n_p0_graph_Places c_p0_graph_Places, .int .i64 p0_period, .slice A_p0_path n_p0_path c_p0_path, .slice A_p0_seen n_p0_seen c_p0_seen], .row A_p0_path n_p0_path c_p0_path 2 1 (ints p0_path), .row A_p0_seen n_p0_seen c_p0_seen 4 1 (bools p0_seen)]) W A_p0_graph_Places ((recs GPlace.cells) p0_graph_Places)) (hst : St (muL [.blk b_p0 151 [.int .i64 p0_graph_Events, .slice A_p0_graph_Places n_p0_graph_Places c_p0_graph_Places, .int .i64 p0_period, .slice A_p0_path n_p0_path c_p0_path, .slice A_p0_seen n_p0_seen c_p0_seen], .row A_p0_path n_p0_path c_p0_path 2 1 (ints p0_path), .row A_p0_seen n_p0_seen c_p0_seen 4 1 (bools p0_seen)]) W W [.blk b_p0 151 [.int .i64 p0_graph_Events, .slice A_p0_graph_Places n_p0_graph_Places c_p0_graph_Places, .int .i64 p0_period, .slice A_p0_path n_p0_path c_p0_path, .slice A_p0_seen n_p0_seen c_p0_seen], .row A_p0_path n_p0_path c_p0_path 2 1 (ints p0_path), .row A_p0_seen n_p0_seen c_p0_seen 4 1 (bools p0_seen)]) :
    Calls Try.prog 139 [.pointer (some ⟨b_p0, 0, none⟩), .int .i64 p1, .int .i64 p2, .int .i64 p3].toArray W fun e w' => ∃ v, e = .returned v ∧ ∃ A3_, ∃ n3_, ∃ c3_, ∃ A4_, ∃ n4_, ∃ c4_, v = .bool r.1 ∧ n3_ = r.2.2.2.1.length ∧ n4_ = r.2.2.2.2.length ∧ St (muL [.blk b_p0 151 [.int .i64 p0_graph_Events, .slice A_p0_graph_Places n_p0_graph_Places c_p0_graph_Places, .int .i64 p0_period, .slice A_p0_path n_p0_path c_p0_path, .slice A_p0_seen n_p0_seen c_p0_seen], .row A_p0_path n_p0_path c_p0_path 2 1 (ints p0_path), .row A_p0_seen n_p0_seen c_p0_seen 4 1 (bools p0_seen)]) W w' [.blk b_p0 151 [.int .i64 r.2.1, .slice A_p0_graph_Places n_p0_graph_Places c_p0_graph_Places, .int .i64 r.2.2.1, .slice A3_ n3_ c3_, .slice A4_ n4_ c4_], .row A3_ n3_ c3_ 2 1 (ints r.2.2.2.1), .row A4_ n4_ c4_ 4 1 (bools r.2.2.2.2)] := by
  subst hn_p0_graph_Places
  subst hn_p0_path
  subst hn_p0_seen
  unfold impl_conflictSearch_goOn_rec at hm
  refine Calls.enter (N := 115) Try.func139 rfl rfl rfl (fun a hf => ?_)
  have hs := hst
  obtain ⟨w, hw_⟩ : ∃ w, w = W := ⟨W, rfl⟩
  clear hw_ w
  refine wpL_seq ?_
  refine wpL_region ?_
  refine sY hf hs rfl rfl rfl (Y_assign rfl rfl) ?_; clear hf; intro a hf
  refine wpO_nil ?_
  refine wpL_seq ?_
  refine wpL_seq ?_
  refine wpL_region ?_
  refine sY hf hs rfl rfl rfl (Y_move rfl rfl) ?_; clear hf; intro a hf
  refine sY hf hs rfl rfl rfl (Y_nilCheck rfl rfl) ?_; clear hf; intro a hf
  refine sY hf hs rfl rfl rfl (Y_fieldAddr rfl rfl fo151_0) ?_; clear hf; intro a hf
  refine sY hf hs rfl rfl rfl (Y_fieldAddr rfl rfl fo30_1) ?_; clear hf; intro a hf
  refine sY hf hs rfl rfl rfl (Y_load_blk rfl rfl (i := 0) rfl rfl ag28) ?_; clear hf; intro a hf
  refine sY hf hs rfl rfl rfl (Y_lenH rfl rfl el28 rfl) ?_; clear hf; intro a hf
  refine sY hf hs rfl rfl rfl (Y_move rfl rfl) ?_; clear hf; intro a hf
  refine wpO_nil ?_
  obtain ⟨r402, hl403, hm⟩ := bind_some hm
  refine wpL_block (fun a w => ∃ x390 : Int, ∃ x391 : Int, ∃ xs392 : List Int, ∃ xs397 : List Bool, ∃ A393, ∃ n394, ∃ c395, ∃ A398, ∃ n399, ∃ c400, Sum.inr (x390, x391, xs392, xs397) = r402 ∧ n394 = xs392.length ∧ n399 = xs397.length ∧ Fr a 115 [] ∧ St (muL [.blk b_p0 151 [.int .i64 p0_graph_Events, .slice A_p0_graph_Places p0_graph_Places.length c_p0_graph_Places, .int .i64 p0_period, .slice A_p0_path p0_path.length c_p0_path, .slice A_p0_seen p0_seen.length c_p0_seen], .row A_p0_path p0_path.length c_p0_path 2 1 (ints p0_path), .row A_p0_seen p0_seen.length c_p0_seen 4 1 (bools p0_seen)]) W w [.blk b_p0 151 [.int .i64 x390, .slice A_p0_graph_Places p0_graph_Places.length c_p0_graph_Places, .int .i64 x391, .slice A393 n394 c395, .slice A398 n399 c400], .row A393 n394 c395 2 1 (ints xs392), .row A398 n399 c400 4 1 (bools xs397)]) ?_ ?_
  · refine wpL_loop (fun n a w => ∃ x256 : Int, ∃ x257 : Int, ∃ xs258 : List Int, ∃ xs263 : List Bool, ∃ x268 : Int, ∃ A259, ∃ n260, ∃ c261, ∃ A264, ∃ n265, ∃ c266, impl_conflictSearch_goOn_L1 F p0_graph_Places p1 p2 p3 (impl_conflictSearch_goOn_rec F k_) n x256 x257 xs258 xs263 x268 = some r402 ∧ n260 = xs258.length ∧ n265 = xs263.length ∧ Fr a 115 [(0, .pointer (some ⟨b_p0, 0, none⟩)), (1, .int .i64 p1), (2, .int .i64 p2), (3, .int .i64 p3), (16, .slice A_p0_graph_Places p0_graph_Places.length c_p0_graph_Places), (17, .int .i64 (p0_graph_Places.length : Int)), (18, .int .i64 x268)] ∧ St (muL [.blk b_p0 151 [.int .i64 p0_graph_Events, .slice A_p0_graph_Places p0_graph_Places.length c_p0_graph_Places, .int .i64 p0_period, .slice A_p0_path p0_path.length c_p0_path, .slice A_p0_seen p0_seen.length c_p0_seen], .row A_p0_path p0_path.length c_p0_path 2 1 (ints p0_path), .row A_p0_seen p0_seen.length c_p0_seen 4 1 (bools p0_seen)]) W w [.blk b_p0 151 [.int .i64 x256, .slice A_p0_graph_Places p0_graph_Places.length c_p0_graph_Places, .int .i64 x257, .slice A259 n260 c261, .slice A264 n265 c266], .row A259 n260 c261 2 1 (ints xs258), .row A264 n265 c266 4 1 (bools xs263)]) F ?_ ?_ ?_
    · exact ⟨p0_graph_Events, p0_period, p0_path, p0_seen, 0, A_p0_path, p0_path.length, c_p0_path, A_p0_seen, p0_seen.length, c_p0_seen, hl403, rfl, rfl, (Fr.pick (Fr.pick (Fr.pick (Fr.pick (Fr.pick (Fr.pick (Fr.pick hf.none hf rfl) hf rfl) hf rfl) hf rfl) hf rfl) hf rfl) hf rfl), hs⟩
    · rintro a w ⟨x256, x257, xs258, xs263, x268, A259, n260, c261, A264, n265, c266, h0_, -, -, -, -⟩; simp [impl_conflictSearch_goOn_L1] at h0_
    · rintro n405 a w ⟨x256, x257, xs258, xs263, x268, A259, n260, c261, A264, n265, c266, hm404, hn262, hn267, hf, hs⟩
      rw [impl_conflictSearch_goOn_L1] at hm404
      refine wpL_seq ?_
      refine wpL_region ?_
      refine sY hf hs rfl rfl rfl (Y_lss rfl rfl rfl) ?_; clear hf; intro a hf
      refine wpO_nil ?_
      refine wpL_seq ?_
      refine wpL_cond hf rfl (fun hb406 => ?_) (fun hb406 => ?_)
      · have hm404 := bif_t hm404 hb406
        refine wpL_skip ?_
        refine wpL_seq ?_
        obtain ⟨r472, hj473, hm404⟩ := bind_some hm404
        refine wpL_block (fun a w => ∃ x460 : Int, ∃ x461 : Int, ∃ xs462 : List Int, ∃ xs467 : List Bool, ∃ A463, ∃ n464, ∃ c465, ∃ A468, ∃ n469, ∃ c470, Sum.inr (x460, x461, xs462, xs467) = r472 ∧ n464 = xs462.length ∧ n469 = xs467.length ∧ Fr a 115 [(0, .pointer (some ⟨b_p0, 0, none⟩)), (1, .int .i64 p1), (2, .int .i64 p2), (3, .int .i64 p3), (16, .slice A_p0_graph_Places p0_graph_Places.length c_p0_graph_Places), (17, .int .i64 (p0_graph_Places.length : Int)), (18, .int .i64 x268)] ∧ St (muL [.blk b_p0 151 [.int .i64 p0_graph_Events, .slice A_p0_graph_Places p0_graph_Places.length c_p0_graph_Places, .int .i64 p0_period, .slice A_p0_path p0_path.length c_p0_path, .slice A_p0_seen p0_seen.length c_p0_seen], .row A_p0_path p0_path.length c_p0_path 2 1 (ints p0_path), .row A_p0_seen p0_seen.length c_p0_seen 4 1 (bools p0_seen)]) W w [.blk b_p0 151 [.int .i64 x460, .slice A_p0_graph_Places p0_graph_Places.length c_p0_graph_Places, .int .i64 x461, .slice A463 n464 c465, .slice A468 n469 c470], .row A463 n464 c465 2 1 (ints xs462), .row A468 n469 c470 4 1 (bools xs467)]) ?_ ?_
        · refine wpL_seq ?_
          refine wpL_region ?_
          refine sY hf hs rfl rfl rfl (Y_move rfl rfl) ?_; clear hf; intro a hf
          obtain ⟨q474, hi475, hj473⟩ := bind_some hj473
          obtain ⟨hi475a, hi475b, hi475q⟩ := idx_some hi475
          refine sY hf hs rfl rfl rfl (Y_index rfl rfl rfl el28 ti120 (Rd.isAt (h_p0_graph_Places.at hs) (recs_at (s := 4) GPlace.len hi475q (j := 0) rfl)) hi475a hi475b) ?_; clear hf; intro a hf
          refine sY hf hs rfl rfl rfl (Y_load_rdS rfl rfl (us := [.int .i64 q474.From, .int .i64 q474.To, .int .i64 q474.Delay, .int .i64 q474.Tokens]) (fun w hs => h_p0_graph_Places.at hs) (fun j u hj => recs_at (s := 4) GPlace.len hi475q hj) (Nat.succ_pos _) ag120 ti120 rfl) ?_; clear hf; intro a hf
          refine sAlloc hf hs rfl rfl rfl rfl ti120 ?_; clear hf hs; intro a w b476 hs hf
          have hs : St (muL [.blk b_p0 151 [.int .i64 p0_graph_Events, .slice A_p0_graph_Places p0_graph_Places.length c_p0_graph_Places, .int .i64 p0_period, .slice A_p0_path p0_path.length c_p0_path, .slice A_p0_seen p0_seen.length c_p0_seen], .row A_p0_path p0_path.length c_p0_path 2 1 (ints p0_path), .row A_p0_seen p0_seen.length c_p0_seen 4 1 (bools p0_seen)]) W w [.blk b_p0 151 [.int .i64 x256, .slice A_p0_graph_Places p0_graph_Places.length c_p0_graph_Places, .int .i64 x257, .slice A259 n260 c261, .slice A264 n265 c266], .row A259 n260 c261 2 1 (ints xs258), .row A264 n265 c266 4 1 (bools xs263), .blk b476 120 [.int .i64 0, .int .i64 0, .int .i64 0, .int .i64 0]] := hs
          refine sY hf hs rfl rfl rfl (Y_assign rfl rfl) ?_; clear hf; intro a hf
          refine sStore (i := 3) (us := [.int .i64 q474.From, .int .i64 q474.To, .int .i64 q474.Delay, .int .i64 q474.Tokens]) hf hs rfl rfl rfl rfl rfl rfl ti120 rfl rfl rfl (Nat.le_of_ble_eq_true rfl) rfl ?_; clear hs; intro w hs
          have hs : St (muL [.blk b_p0 151 [.int .i64 p0_graph_Events, .slice A_p0_graph_Places p0_graph_Places.length c_p0_graph_Places, .int .i64 p0_period, .slice A_p0_path p0_path.length c_p0_path, .slice A_p0_seen p0_seen.length c_p0_seen], .row A_p0_path p0_path.length c_p0_path 2 1 (ints p0_path), .row A_p0_seen p0_seen.length c_p0_seen 4 1 (bools p0_seen)]) W w [.blk b_p0 151 [.int .i64 x256, .slice A_p0_graph_Places p0_graph_Places.length c_p0_graph_Places, .int .i64 x257, .slice A259 n260 c261, .slice A264 n265 c266], .row A259 n260 c261 2 1 (ints xs258), .row A264 n265 c266 4 1 (bools xs263), .blk b476 120 [.int .i64 q474.From, .int .i64 q474.To, .int .i64 q474.Delay, .int .i64 q474.Tokens]] := hs
          refine wpO_nil ?_
          refine wpL_seq ?_
          refine wpL_seq ?_
          obtain ⟨r483, hj484, hj473⟩ := bind_some hj473
          refine wpL_cut (fun a w => ∃ b482 : Bool, b482 = r483 ∧ Fr a 115 [(0, .pointer (some ⟨b_p0, 0, none⟩)), (1, .int .i64 p1), (2, .int .i64 p2), (3, .int .i64 p3), (9, .int .i64 x268), (10, .pointer (some ⟨b476, 0, none⟩)), (16, .slice A_p0_graph_Places p0_graph_Places.length c_p0_graph_Places), (17, .int .i64 (p0_graph_Places.length : Int)), (18, .int .i64 x268), (48, .bool b482)] ∧ St (muL [.blk b_p0 151 [.int .i64 p0_graph_Events, .slice A_p0_graph_Places p0_graph_Places.length c_p0_graph_Places, .int .i64 p0_period, .slice A_p0_path p0_path.length c_p0_path, .slice A_p0_seen p0_seen.length c_p0_seen], .row A_p0_path p0_path.length c_p0_path 2 1 (ints p0_path), .row A_p0_seen p0_seen.length c_p0_seen 4 1 (bools p0_seen)]) W w [.blk b_p0 151 [.int .i64 x256, .slice A_p0_graph_Places p0_graph_Places.length c_p0_graph_Places, .int .i64 x257, .slice A259 n260 c261, .slice A264 n265 c266], .row A259 n260 c261 2 1 (ints xs258), .row A264 n265 c266 4 1 (bools xs263), .blk b476 120 [.int .i64 q474.From, .int .i64 q474.To, .int .i64 q474.Delay, .int .i64 q474.Tokens]]) ?_ ?_
          · refine wpL_draw (by kernel_rfl) (by kernel_rfl) hs ?_
            refine qY hf rfl rfl rfl (Y_fieldAddr rfl rfl fo120_0) ?_; clear hf; intro a hf
            refine qY hf rfl rfl rfl (Y_load_blk rfl rfl (i := 3) rfl rfl ag2) ?_; clear hf; intro a hf
            refine qY hf rfl rfl rfl (Y_move rfl rfl) ?_; clear hf; intro a hf
            refine qY hf rfl rfl rfl (Y_neq rfl rfl rfl) ?_; clear hf; intro a hf
            refine qY hf rfl rfl rfl (Y_move rfl rfl) ?_; clear hf; intro a hf
            refine bsplit (q474.From != p2) (fun hb485 => ?_) (fun hb485 => ?_)
            · have hj484 := bif_t hj484 hb485
              refine qNo hf rfl rfl rfl (congrArg (fun b => some (Value.bool b)) hb485) rfl rfl rfl ?_; clear hf; intro a hf
              refine qNo hf rfl rfl rfl (congrArg (fun b => some (Value.bool b)) hb485) rfl rfl rfl ?_; clear hf; intro a hf
              refine qNo hf rfl rfl rfl (congrArg (fun b => some (Value.bool b)) hb485) rfl rfl rfl ?_; clear hf; intro a hf
              refine qNo hf rfl rfl rfl (congrArg (fun b => some (Value.bool b)) hb485) rfl rfl rfl ?_; clear hf; intro a hf
              refine qY hf rfl rfl rfl (Y_pickT rfl (congrArg (fun b => some (Value.bool b)) hb485) rfl) ?_; clear hf; intro a hf
              refine qY hf rfl rfl rfl (Y_move rfl rfl) ?_; clear hf; intro a hf
              refine qNo hf rfl rfl rfl rfl rfl rfl rfl ?_; clear hf; intro a hf
              refine qNo hf rfl rfl rfl rfl rfl rfl rfl ?_; clear hf; intro a hf
              refine qNo hf rfl rfl rfl rfl rfl rfl rfl ?_; clear hf; intro a hf
              refine qNo hf rfl rfl rfl rfl rfl rfl rfl ?_; clear hf; intro a hf
              refine qNo hf rfl rfl rfl rfl rfl rfl rfl ?_; clear hf; intro a hf
              refine qNoU hf rfl rfl rfl rfl rfl rfl rfl ?_; clear hf; intro a hf
              refine qNoU hf rfl rfl rfl rfl rfl rfl rfl ?_; clear hf; intro a hf
              refine qNoU hf rfl rfl rfl rfl rfl rfl rfl ?_; clear hf; intro a hf
              refine qNoU hf rfl rfl rfl rfl rfl rfl rfl ?_; clear hf; intro a hf
              refine qNoU hf rfl rfl rfl rfl rfl rfl rfl ?_; clear hf; intro a hf
              refine qNoU hf rfl rfl rfl rfl rfl rfl rfl ?_; clear hf; intro a hf
              refine qNoU hf rfl rfl rfl rfl rfl rfl rfl ?_; clear hf; intro a hf
              refine qNoU hf rfl rfl rfl rfl rfl rfl rfl ?_; clear hf; intro a hf
              refine qNo hf rfl rfl rfl rfl rfl rfl rfl ?_; clear hf; intro a hf
              refine qY hf rfl rfl rfl (Y_pickT rfl rfl rfl) ?_; clear hf; intro a hf
              refine qNil ?_; clear hs; intro w hs
              refine wpL_nil (then_normal ?_)
              exact ⟨true, Option.some.inj hj484, (Fr.pick (Fr.pick (Fr.pick (Fr.pick (Fr.pick (Fr.pick (Fr.pick (Fr.pick (Fr.pick (Fr.pick hf.none hf rfl) hf rfl) hf rfl) hf rfl) hf rfl) hf rfl) hf rfl) hf rfl) hf rfl) hf rfl), hs⟩
            · have hj484 := bif_f hj484 hb485
              refine qYg hf rfl rfl rfl (congrArg (fun b => some (Value.bool b)) hb485) rfl rfl rfl (Y_fieldAddr rfl rfl fo120_1) ?_; clear hf; intro a hf
              refine qYg hf rfl rfl rfl (congrArg (fun b => some (Value.bool b)) hb485) rfl rfl rfl (Y_load_blk rfl rfl (i := 3) rfl rfl ag2) ?_; clear hf; intro a hf
              refine qYg hf rfl rfl rfl (congrArg (fun b => some (Value.bool b)) hb485) rfl rfl rfl (Y_move rfl rfl) ?_; clear hf; intro a hf
              refine qYg hf rfl rfl rfl (congrArg (fun b => some (Value.bool b)) hb485) rfl rfl rfl (Y_lss rfl rfl rfl) ?_; clear hf; intro a hf
              refine qY hf rfl rfl rfl (Y_pickF rfl (congrArg (fun b => some (Value.bool b)) hb485) rfl) ?_; clear hf; intro a hf
              refine qY hf rfl rfl rfl (Y_move rfl rfl) ?_; clear hf; intro a hf
              refine bsplit (decide (q474.To < p1)) (fun hb486 => ?_) (fun hb486 => ?_)
              · have hj484 := bif_t hj484 hb486
                refine qNo hf rfl rfl rfl (congrArg (fun b => some (Value.bool b)) hb486) rfl rfl rfl ?_; clear hf; intro a hf
                refine qNo hf rfl rfl rfl (congrArg (fun b => some (Value.bool b)) hb486) rfl rfl rfl ?_; clear hf; intro a hf
                refine qNo hf rfl rfl rfl (congrArg (fun b => some (Value.bool b)) hb486) rfl rfl rfl ?_; clear hf; intro a hf
                refine qNo hf rfl rfl rfl (congrArg (fun b => some (Value.bool b)) hb486) rfl rfl rfl ?_; clear hf; intro a hf
                refine qNo hf rfl rfl rfl (congrArg (fun b => some (Value.bool b)) hb486) rfl rfl rfl ?_; clear hf; intro a hf
                refine qNoU hf rfl rfl rfl rfl rfl rfl rfl ?_; clear hf; intro a hf
                refine qNoU hf rfl rfl rfl rfl rfl rfl rfl ?_; clear hf; intro a hf
                refine qNoU hf rfl rfl rfl rfl rfl rfl rfl ?_; clear hf; intro a hf
                refine qNoU hf rfl rfl rfl rfl rfl rfl rfl ?_; clear hf; intro a hf
                refine qNoU hf rfl rfl rfl rfl rfl rfl rfl ?_; clear hf; intro a hf
                refine qNoU hf rfl rfl rfl rfl rfl rfl rfl ?_; clear hf; intro a hf
                refine qNoU hf rfl rfl rfl rfl rfl rfl rfl ?_; clear hf; intro a hf
                refine qNoU hf rfl rfl rfl rfl rfl rfl rfl ?_; clear hf; intro a hf
                refine qNo hf rfl rfl rfl (congrArg (fun b => some (Value.bool b)) hb486) rfl rfl rfl ?_; clear hf; intro a hf
                refine qY hf rfl rfl rfl (Y_pickT rfl (congrArg (fun b => some (Value.bool b)) hb486) rfl) ?_; clear hf; intro a hf
                refine qNil ?_; clear hs; intro w hs
                refine wpL_nil (then_normal ?_)
                exact ⟨true, Option.some.inj hj484, (Fr.pick (Fr.pick (Fr.pick (Fr.pick (Fr.pick (Fr.pick (Fr.pick (Fr.pick (Fr.pick (Fr.pick hf.none hf rfl) hf rfl) hf rfl) hf rfl) hf rfl) hf rfl) hf rfl) hf rfl) hf rfl) hf rfl), hs⟩
              · have hj484 := bif_f hj484 hb486
                refine qYg hf rfl rfl rfl (congrArg (fun b => some (Value.bool b)) hb486) rfl rfl rfl (Y_fieldAddr rfl rfl fo120_1) ?_; clear hf; intro a hf
                refine qYg hf rfl rfl rfl (congrArg (fun b => some (Value.bool b)) hb486) rfl rfl rfl (Y_load_blk rfl rfl (i := 3) rfl rfl ag2) ?_; clear hf; intro a hf
                refine qYg hf rfl rfl rfl (congrArg (fun b => some (Value.bool b)) hb486) rfl rfl rfl (Y_move rfl rfl) ?_; clear hf; intro a hf
                refine qYg hf rfl rfl rfl (congrArg (fun b => some (Value.bool b)) hb486) rfl rfl rfl (Y_neq rfl rfl rfl) ?_; clear hf; intro a hf
                refine qYg hf rfl rfl rfl (congrArg (fun b => some (Value.bool b)) hb486) rfl rfl rfl (Y_move rfl rfl) ?_; clear hf; intro a hf
                refine bsplit (q474.To != p1) (fun hb487 => ?_) (fun hb487 => ?_)
                · have hj484 := bif_t hj484 hb487
                  refine qYg hf rfl rfl rfl (congrArg (fun b => some (Value.bool b)) hb487) rfl rfl rfl (Y_move rfl rfl) ?_; clear hf; intro a hf
                  refine qYg hf rfl rfl rfl (congrArg (fun b => some (Value.bool b)) hb487) rfl rfl rfl (Y_nilCheck rfl rfl) ?_; clear hf; intro a hf
                  refine qYg hf rfl rfl rfl (congrArg (fun b => some (Value.bool b)) hb487) rfl rfl rfl (Y_fieldAddr rfl rfl fo151_3) ?_; clear hf; intro a hf
                  refine qYg hf rfl rfl rfl (congrArg (fun b => some (Value.bool b)) hb487) rfl rfl rfl (Y_load_blk rfl rfl (i := 0) rfl rfl ag144) ?_; clear hf; intro a hf
                  refine qYg hf rfl rfl rfl (congrArg (fun b => some (Value.bool b)) hb487) rfl rfl rfl (Y_fieldAddr rfl rfl fo120_1) ?_; clear hf; intro a hf
                  refine qYg hf rfl rfl rfl (congrArg (fun b => some (Value.bool b)) hb487) rfl rfl rfl (Y_load_blk rfl rfl (i := 3) rfl rfl ag2) ?_; clear hf; intro a hf
                  obtain ⟨q488, hi489, hj484⟩ := bind_some hj484
                  obtain ⟨hi489a, hi489b, hi489q⟩ := idx_some hi489
                  refine qYg hf rfl rfl rfl (congrArg (fun b => some (Value.bool b)) hb487) rfl rfl rfl (Y_index rfl rfl rfl el144 ti4 (Rd.isAt (hs.rd (i := 2) rfl) (at1 (bools_at hi489q))) hi489a (ltn hn267 hi489b)) ?_; clear hf; intro a hf
                  refine qYg hf rfl rfl rfl (congrArg (fun b => some (Value.bool b)) hb487) rfl rfl rfl (Y_load_rd rfl rfl (fun w hs => hs.rd (i := 2) rfl) (at1 (bools_at hi489q)) ag4) ?_; clear hf; intro a hf
                  refine qYg hf rfl rfl rfl (congrArg (fun b => some (Value.bool b)) hb486) rfl rfl rfl (Y_pickT rfl (congrArg (fun b => some (Value.bool b)) hb487) rfl) ?_; clear hf; intro a hf
                  refine qY hf rfl rfl rfl (Y_pickF rfl (congrArg (fun b => some (Value.bool b)) hb486) rfl) ?_; clear hf; intro a hf
                  refine qNil ?_; clear hs; intro w hs
                  refine wpL_nil (then_normal ?_)
                  exact ⟨q488, Option.some.inj hj484, (Fr.pick (Fr.pick (Fr.pick (Fr.pick (Fr.pick (Fr.pick (Fr.pick (Fr.pick (Fr.pick (Fr.pick hf.none hf rfl) hf rfl) hf rfl) hf rfl) hf rfl) hf rfl) hf rfl) hf rfl) hf rfl) hf rfl), hs⟩
                · have hj484 := bif_f hj484 hb487
                  refine qNo hf rfl rfl rfl (congrArg (fun b => some (Value.bool b)) hb487) rfl rfl rfl ?_; clear hf; intro a hf
                  refine qNo hf rfl rfl rfl (congrArg (fun b => some (Value.bool b)) hb487) rfl rfl rfl ?_; clear hf; intro a hf
                  refine qNo hf rfl rfl rfl (congrArg (fun b => some (Value.bool b)) hb487) rfl rfl rfl ?_; clear hf; intro a hf
                  refine qNo hf rfl rfl rfl (congrArg (fun b => some (Value.bool b)) hb487) rfl rfl rfl ?_; clear hf; intro a hf
                  refine qNo hf rfl rfl rfl (congrArg (fun b => some (Value.bool b)) hb487) rfl rfl rfl ?_; clear hf; intro a hf
                  refine qNo hf rfl rfl rfl (congrArg (fun b => some (Value.bool b)) hb487) rfl rfl rfl ?_; clear hf; intro a hf
                  refine qNo hf rfl rfl rfl (congrArg (fun b => some (Value.bool b)) hb487) rfl rfl rfl ?_; clear hf; intro a hf
                  refine qNo hf rfl rfl rfl (congrArg (fun b => some (Value.bool b)) hb487) rfl rfl rfl ?_; clear hf; intro a hf
                  refine qYg hf rfl rfl rfl (congrArg (fun b => some (Value.bool b)) hb486) rfl rfl rfl (Y_pickF rfl (congrArg (fun b => some (Value.bool b)) hb487) rfl) ?_; clear hf; intro a hf
                  refine qY hf rfl rfl rfl (Y_pickF rfl (congrArg (fun b => some (Value.bool b)) hb486) rfl) ?_; clear hf; intro a hf
                  refine qNil ?_; clear hs; intro w hs
                  refine wpL_nil (then_normal ?_)
                  exact ⟨false, Option.some.inj hj484, (Fr.pick (Fr.pick (Fr.pick (Fr.pick (Fr.pick (Fr.pick (Fr.pick (Fr.pick (Fr.pick (Fr.pick hf.none hf rfl) hf rfl) hf rfl) hf rfl) hf rfl) hf rfl) hf rfl) hf rfl) hf rfl) hf rfl), hs⟩
          · rintro a w ⟨b482, hr_, hf, hs⟩
            subst hr_
            try dsimp only at hj473
            refine wpL_cond hf rfl (fun hb490 => ?_) (fun hb490 => ?_)
            · have hj473 := bif_t hj473 hb490
              refine wpL_exit (Qb_exit ?_)
              exact ⟨x256, x257, xs258, xs263, A259, n260, c261, A264, n265, c266, Option.some.inj hj473, hn262, hn267, (Fr.pick (Fr.pick (Fr.pick (Fr.pick (Fr.pick (Fr.pick (Fr.pick hf.none hf rfl) hf rfl) hf rfl) hf rfl) hf rfl) hf rfl) hf rfl), hs.sel [0, 1, 2] (by decide)⟩
            · have hj473 := bif_f hj473 hb490
              refine wpL_skip ?_
              refine wpL_seq ?_
              refine wpL_draw (by kernel_rfl) (by kernel_rfl) hs ?_
              refine qY hf rfl rfl rfl (Y_move rfl rfl) ?_; clear hf; intro a hf
              refine qY hf rfl rfl rfl (Y_load_blkS rfl rfl (i := 3) rfl ag120 ti120 rfl) ?_; clear hf; intro a hf
              refine qY hf rfl rfl rfl (Y_move rfl rfl) ?_; clear hf; intro a hf
              refine qY hf rfl rfl rfl (Y_nilCheck rfl rfl) ?_; clear hf; intro a hf
              refine qY hf rfl rfl rfl (Y_fieldAddr rfl rfl fo151_1) ?_; clear hf; intro a hf
              refine qY hf rfl rfl rfl (Y_load_blk rfl rfl (i := 0) rfl rfl ag2) ?_; clear hf; intro a hf
              refine qY hf rfl rfl rfl (Y_build (parts := [(0, .tmp 54), (1, .const (.int .i64 1))]) (vs := [.int .i64 x257, .int .i64 1]) rfl rfl (run_build (parts := [(0, .int .i64 x257), (1, .int .i64 1)]) (cells := [.int .i64 x257, .int .i64 1]) (places := #[(0, 1), (1, 1)]) ti84 Try.underlying84 (fun w => by simp [go_sem]) rfl)) ?_; clear hf; intro a hf
              obtain ⟨r491, hc492, hj473⟩ := bind_some hj473
              refine qCall hf rfl rfl rfl rfl (cap := []) rfl rfl en127 (v := .int .i64 r491) (fun w hs => Calls.scal (impl_placeWeight_ok F q474 (GRatio.mk x257 1) _ _ hc492)) ?_; clear hf; intro a hf
              refine qY hf rfl rfl rfl (Y_add rfl rfl rfl) ?_; clear hf; intro a hf
              refine qY hf rfl rfl rfl (Y_assign rfl rfl) ?_; clear hf; intro a hf
              refine qNil ?_; clear hs; intro w hs
              refine wpL_seq ?_
              refine wpL_seq ?_
              obtain ⟨r495, hj496, hj473⟩ := bind_some hj473
              refine wpL_cut (fun a w => ∃ b494 : Bool, b494 = r495 ∧ Fr a 115 [(0, .pointer (some ⟨b_p0, 0, none⟩)), (1, .int .i64 p1), (2, .int .i64 p2), (3, .int .i64 p3), (9, .int .i64 x268), (10, .pointer (some ⟨b476, 0, none⟩)), (11, .int .i64 (IntKind.i64.wrap (p3 + r491))), (16, .slice A_p0_graph_Places p0_graph_Places.length c_p0_graph_Places), (17, .int .i64 (p0_graph_Places.length : Int)), (18, .int .i64 x268), (65, .bool b494)] ∧ St (muL [.blk b_p0 151 [.int .i64 p0_graph_Events, .slice A_p0_graph_Places p0_graph_Places.length c_p0_graph_Places, .int .i64 p0_period, .slice A_p0_path p0_path.length c_p0_path, .slice A_p0_seen p0_seen.length c_p0_seen], .row A_p0_path p0_path.length c_p0_path 2 1 (ints p0_path), .row A_p0_seen p0_seen.length c_p0_seen 4 1 (bools p0_seen)]) W w [.blk b_p0 151 [.int .i64 x256, .slice A_p0_graph_Places p0_graph_Places.length c_p0_graph_Places, .int .i64 x257, .slice A259 n260 c261, .slice A264 n265 c266], .row A259 n260 c261 2 1 (ints xs258), .row A264 n265 c266 4 1 (bools xs263), .blk b476 120 [.int .i64 q474.From, .int .i64 q474.To, .int .i64 q474.Delay, .int .i64 q474.Tokens]]) ?_ ?_
              · refine wpL_region ?_
                refine sY hf hs rfl rfl rfl (Y_fieldAddr rfl rfl fo120_1) ?_; clear hf; intro a hf
                refine sY hf hs rfl rfl rfl (Y_load_blk rfl rfl (i := 3) rfl rfl ag2) ?_; clear hf; intro a hf
                refine sY hf hs rfl rfl rfl (Y_move rfl rfl) ?_; clear hf; intro a hf
                refine sY hf hs rfl rfl rfl (Y_eql rfl rfl rfl) ?_; clear hf; intro a hf
                refine sY hf hs rfl rfl rfl (Y_move rfl rfl) ?_; clear hf; intro a hf
                refine bsplit (q474.To == p1) (fun hb497 => ?_) (fun hb497 => ?_)
                · have hj496 := bif_t hj496 hb497
                  refine sYg hf hs rfl rfl rfl (congrArg (fun b => some (Value.bool b)) hb497) rfl rfl rfl (Y_move rfl rfl) ?_; clear hf; intro a hf
                  refine sYg hf hs rfl rfl rfl (congrArg (fun b => some (Value.bool b)) hb497) rfl rfl rfl (Y_leq rfl rfl rfl) ?_; clear hf; intro a hf
                  refine sY hf hs rfl rfl rfl (Y_pickT rfl (congrArg (fun b => some (Value.bool b)) hb497) rfl) ?_; clear hf; intro a hf
                  refine wpO_nil ?_
                  refine wpL_nil (then_normal ?_)
                  exact ⟨(decide ((IntKind.i64.wrap (p3 + r491)) ≤ 0)), Option.some.inj hj496, (Fr.pick (Fr.pick (Fr.pick (Fr.pick (Fr.pick (Fr.pick (Fr.pick (Fr.pick (Fr.pick (Fr.pick (Fr.pick hf.none hf rfl) hf rfl) hf rfl) hf rfl) hf rfl) hf rfl) hf rfl) hf rfl) hf rfl) hf rfl) hf rfl), hs⟩
                · have hj496 := bif_f hj496 hb497
                  refine sNo hf rfl rfl rfl (congrArg (fun b => some (Value.bool b)) hb497) rfl rfl rfl ?_; clear hf; intro a hf
                  refine sNo hf rfl rfl rfl (congrArg (fun b => some (Value.bool b)) hb497) rfl rfl rfl ?_; clear hf; intro a hf
                  refine sY hf hs rfl rfl rfl (Y_pickF rfl (congrArg (fun b => some (Value.bool b)) hb497) rfl) ?_; clear hf; intro a hf
                  refine wpO_nil ?_
                  refine wpL_nil (then_normal ?_)
                  exact ⟨false, Option.some.inj hj496, (Fr.pick (Fr.pick (Fr.pick (Fr.pick (Fr.pick (Fr.pick (Fr.pick (Fr.pick (Fr.pick (Fr.pick (Fr.pick hf.none hf rfl) hf rfl) hf rfl) hf rfl) hf rfl) hf rfl) hf rfl) hf rfl) hf rfl) hf rfl) hf rfl), hs⟩
              · rintro a w ⟨b494, hr_, hf, hs⟩
                subst hr_
                try dsimp only at hj473
                refine wpL_cond hf rfl (fun hb498 => ?_) (fun hb498 => ?_)
                · have hj473 := bif_t hj473 hb498
                  refine wpL_exit (Qb_exit ?_)
                  exact ⟨x256, x257, xs258, xs263, A259, n260, c261, A264, n265, c266, Option.some.inj hj473, hn262, hn267, (Fr.pick (Fr.pick (Fr.pick (Fr.pick (Fr.pick (Fr.pick (Fr.pick hf.none hf rfl) hf rfl) hf rfl) hf rfl) hf rfl) hf rfl) hf rfl), hs.sel [0, 1, 2] (by decide)⟩
                · have hj473 := bif_f hj473 hb498
                  refine wpL_skip ?_
                  refine wpL_seq ?_
                  refine wpL_region ?_
                  refine sY hf hs rfl rfl rfl (Y_move rfl rfl) ?_; clear hf; intro a hf
                  refine sY hf hs rfl rfl rfl (Y_move rfl rfl) ?_; clear hf; intro a hf
                  refine sY hf hs rfl rfl rfl (Y_nilCheck rfl rfl) ?_; clear hf; intro a hf
                  refine sY hf hs rfl rfl rfl (Y_fieldAddr rfl rfl fo151_2) ?_; clear hf; intro a hf
                  refine sY hf hs rfl rfl rfl (Y_load_blk rfl rfl (i := 0) rfl rfl ag36) ?_; clear hf; intro a hf
                  refine sY hf hs rfl rfl rfl (Y_move rfl rfl) ?_; clear hf; intro a hf
                  refine sBuildSlice (parts := [(0, .tmp 71)]) (vs := [.int .i64 x268]) (cells := [.int .i64 x268]) hf hs rfl rfl rfl rfl rfl el36 ti2 rfl rfl rfl rfl ?_; clear hf hs; intro a w A499 hs hA500 hf
                  have hs : St (muL [.blk b_p0 151 [.int .i64 p0_graph_Events, .slice A_p0_graph_Places p0_graph_Places.length c_p0_graph_Places, .int .i64 p0_period, .slice A_p0_path p0_path.length c_p0_path, .slice A_p0_seen p0_seen.length c_p0_seen], .row A_p0_path p0_path.length c_p0_path 2 1 (ints p0_path), .row A_p0_seen p0_seen.length c_p0_seen 4 1 (bools p0_seen)]) W w [.blk b_p0 151 [.int .i64 x256, .slice A_p0_graph_Places p0_graph_Places.length c_p0_graph_Places, .int .i64 x257, .slice A259 n260 c261, .slice A264 n265 c266], .row A259 n260 c261 2 1 (ints xs258), .row A264 n265 c266 4 1 (bools xs263), .blk b476 120 [.int .i64 q474.From, .int .i64 q474.To, .int .i64 q474.Delay, .int .i64 q474.Tokens], .row A499 1 1 2 1 (ints ([x268]))] := hs
                  obtain ⟨xs503, ha504, hj473⟩ := bind_some hj473
                  refine sAppendL (i := 1) (xs := xs258) (ys := [x268]) (enc := ints) hf hs rfl rfl rfl rfl rfl rfl hn262 rfl rfl ha504 el36 ti2 rfl rfl rfl (hs.rd (i := 4) rfl) (Nat.succ_pos _) ints_len1 ints_append ints_one ?_; clear hf hs; intro a w A501 c502 hs hf
                  have hs : St (muL [.blk b_p0 151 [.int .i64 p0_graph_Events, .slice A_p0_graph_Places p0_graph_Places.length c_p0_graph_Places, .int .i64 p0_period, .slice A_p0_path p0_path.length c_p0_path, .slice A_p0_seen p0_seen.length c_p0_seen], .row A_p0_path p0_path.length c_p0_path 2 1 (ints p0_path), .row A_p0_seen p0_seen.length c_p0_seen 4 1 (bools p0_seen)]) W w [.blk b_p0 151 [.int .i64 x256, .slice A_p0_graph_Places p0_graph_Places.length c_p0_graph_Places, .int .i64 x257, .slice A259 n260 c261, .slice A264 n265 c266], .row A501 xs503.length c502 2 1 (ints xs503), .row A264 n265 c266 4 1 (bools xs263), .blk b476 120 [.int .i64 q474.From, .int .i64 q474.To, .int .i64 q474.Delay, .int .i64 q474.Tokens], .row A499 1 1 2 1 (ints ([x268]))] := hs
                  refine sY hf hs rfl rfl rfl (Y_nilCheck rfl rfl) ?_; clear hf; intro a hf
                  refine sY hf hs rfl rfl rfl (Y_fieldAddr rfl rfl fo151_2) ?_; clear hf; intro a hf
                  refine sStore (i := 0) (us := [.slice A501 xs503.length c502]) hf hs rfl rfl rfl rfl rfl rfl ti36 rfl rfl rfl (Nat.le_of_ble_eq_true rfl) rfl ?_; clear hs; intro w hs
                  have hs : St (muL [.blk b_p0 151 [.int .i64 p0_graph_Events, .slice A_p0_graph_Places p0_graph_Places.length c_p0_graph_Places, .int .i64 p0_period, .slice A_p0_path p0_path.length c_p0_path, .slice A_p0_seen p0_seen.length c_p0_seen], .row A_p0_path p0_path.length c_p0_path 2 1 (ints p0_path), .row A_p0_seen p0_seen.length c_p0_seen 4 1 (bools p0_seen)]) W w [.blk b_p0 151 [.int .i64 x256, .slice A_p0_graph_Places p0_graph_Places.length c_p0_graph_Places, .int .i64 x257, .slice A501 xs503.length c502, .slice A264 n265 c266], .row A501 xs503.length c502 2 1 (ints xs503), .row A264 n265 c266 4 1 (bools xs263), .blk b476 120 [.int .i64 q474.From, .int .i64 q474.To, .int .i64 q474.Delay, .int .i64 q474.Tokens], .row A499 1 1 2 1 (ints ([x268]))] := hs
                  refine wpO_nil ?_
                  refine wpL_seq ?_
                  refine wpL_seq ?_
                  refine wpL_region ?_
                  refine sY hf hs rfl rfl rfl (Y_fieldAddr rfl rfl fo120_1) ?_; clear hf; intro a hf
                  refine sY hf hs rfl rfl rfl (Y_load_blk rfl rfl (i := 3) rfl rfl ag2) ?_; clear hf; intro a hf
                  refine sY hf hs rfl rfl rfl (Y_move rfl rfl) ?_; clear hf; intro a hf
                  refine sY hf hs rfl rfl rfl (Y_eql rfl rfl rfl) ?_; clear hf; intro a hf
                  refine wpO_nil ?_
                  refine wpL_cond hf rfl (fun hb505 => ?_) (fun hb505 => ?_)
                  · have hj473 := bif_t hj473 hb505
                    refine wpL_seq ?_
                    refine wpL_region ?_
                    refine sY hf hs rfl rfl rfl (Y_assign rfl rfl) ?_; clear hf; intro a hf
                    refine wpO_nil ?_
                    obtain rfl := Option.some.inj hj473
                    try dsimp only at hm404
                    obtain rfl := Option.some.inj hm404
                    try dsimp only at hm
                    obtain rfl := Option.some.inj hm
                    refine wpL_ret (Qb_ret (Ql_ret (Qb_ret (ret_tmp rfl hf rfl ?_))))
                    exact ⟨_, rfl, A501, xs503.length, c502, A264, n265, c266, rfl, rfl, hn267, hs.sel [0, 1, 2] (by decide)⟩
                  · have hj473 := bif_f hj473 hb505
                    refine wpL_skip ?_
                    refine wpL_seq ?_
                    refine wpL_drawM [.blk b_p0 151 [.int .i64 x256, .slice A_p0_graph_Places p0_graph_Places.length c_p0_graph_Places, .int .i64 x257, .slice A501 xs503.length c502, .slice A264 n265 c266], .row A501 xs503.length c502 2 1 (ints xs503), .row A264 n265 c266 4 1 (bools xs263), .blk b476 120 [.int .i64 q474.From, .int .i64 q474.To, .int .i64 q474.Delay, .int .i64 q474.Tokens], .row A499 1 1 2 1 (ints ([x268]))] [7] (by kernel_rfl) hs ?_; clear hs; intro w hs
                    have hs0 : St (muL [.blk b_p0 151 [.int .i64 p0_graph_Events, .slice A_p0_graph_Places p0_graph_Places.length c_p0_graph_Places, .int .i64 p0_period, .slice A_p0_path p0_path.length c_p0_path, .slice A_p0_seen p0_seen.length c_p0_seen], .row A_p0_path p0_path.length c_p0_path 2 1 (ints p0_path), .row A_p0_seen p0_seen.length c_p0_seen 4 1 (bools p0_seen)]) W w [.blk b_p0 151 [.int .i64 x256, .slice A_p0_graph_Places p0_graph_Places.length c_p0_graph_Places, .int .i64 x257, .slice A501 xs503.length c502, .slice A264 n265 c266], .row A501 xs503.length c502 2 1 (ints xs503), .row A264 n265 c266 4 1 (bools xs263), .blk b476 120 [.int .i64 q474.From, .int .i64 q474.To, .int .i64 q474.Delay, .int .i64 q474.Tokens], .row A499 1 1 2 1 (ints ([x268]))] := hs
                    refine mYp (i := 0) rfl (by kernel_rfl) (by kernel_rfl) hf rfl rfl rfl (fun _ => Y_move rfl rfl) ?_; clear hf; intro a hf
                    refine mYp (i := 1) rfl (by kernel_rfl) (by kernel_rfl) hf rfl rfl rfl (fun _ => Y_nilCheck rfl rfl) ?_; clear hf; intro a hf
                    refine mYp (i := 2) rfl (by kernel_rfl) (by kernel_rfl) hf rfl rfl rfl (fun _ => Y_fieldAddr rfl rfl fo151_3) ?_; clear hf; intro a hf
                    refine mY (i := 3) [[]] rfl (by kernel_rfl) (by kernel_rfl) hf hs0 rfl rfl rfl (Y_load_blk rfl rfl (i := 0) rfl rfl ag144) ?_; clear hf; intro a hf
                    refine mYp (i := 4) rfl (by kernel_rfl) (by kernel_rfl) hf rfl rfl rfl (fun _ => Y_fieldAddr rfl rfl fo120_1) ?_; clear hf; intro a hf
                    refine mY (i := 5) [[]] rfl (by kernel_rfl) (by kernel_rfl) hf hs0 rfl rfl rfl (Y_load_blk rfl rfl (i := 3) rfl rfl ag2) ?_; clear hf; intro a hf
                    obtain ⟨q506, hi507, hj473⟩ := bind_some hj473
                    obtain ⟨hi507a, hi507b, hi507q⟩ := idx_some hi507
                    refine mYp (i := 6) rfl (by kernel_rfl) (by kernel_rfl) hf rfl rfl rfl (fun _ => Y_index rfl rfl rfl el144 ti4 (Rd.isAt (hs.rd (i := 2) rfl) (at1 (bools_at hi507q))) hi507a (ltn hn267 hi507b)) ?_; clear hf; intro a hf
                    refine mRun (i := 7) rfl (by kernel_rfl) ?_
                    obtain ⟨xs508, hu509, hj473⟩ := bind_some hj473
                    refine sStoreL (i := 2) (us := [.bool true]) (enc := bools) hf hs rfl rfl rfl rfl rfl rfl hn267 hu509 ti4 rfl rfl rfl rfl rfl bools_len1 (bools_set true) ?_; clear hs; intro w hs
                    have hs : St (muL [.blk b_p0 151 [.int .i64 p0_graph_Events, .slice A_p0_graph_Places p0_graph_Places.length c_p0_graph_Places, .int .i64 p0_period, .slice A_p0_path p0_path.length c_p0_path, .slice A_p0_seen p0_seen.length c_p0_seen], .row A_p0_path p0_path.length c_p0_path 2 1 (ints p0_path), .row A_p0_seen p0_seen.length c_p0_seen 4 1 (bools p0_seen)]) W w [.blk b_p0 151 [.int .i64 x256, .slice A_p0_graph_Places p0_graph_Places.length c_p0_graph_Places, .int .i64 x257, .slice A501 xs503.length c502, .slice A264 n265 c266], .row A501 xs503.length c502 2 1 (ints xs503), .row A264 n265 c266 4 1 (bools xs508), .blk b476 120 [.int .i64 q474.From, .int .i64 q474.To, .int .i64 q474.Delay, .int .i64 q474.Tokens], .row A499 1 1 2 1 (ints ([x268]))] := hs
                    refine wpO_nil ⟨Or.inl (by decide), ?_⟩
                    refine mDone (by kernel_rfl) ?_
                    clear hs0
                    refine wpL_seq ?_
                    refine wpL_seq ?_
                    refine wpL_region ?_
                    refine sY hf hs rfl rfl rfl (Y_move rfl rfl) ?_; clear hf; intro a hf
                    refine sY hf hs rfl rfl rfl (Y_move rfl rfl) ?_; clear hf; intro a hf
                    refine sY hf hs rfl rfl rfl (Y_fieldAddr rfl rfl fo120_1) ?_; clear hf; intro a hf
                    refine sY hf hs rfl rfl rfl (Y_load_blk rfl rfl (i := 3) rfl rfl ag2) ?_; clear hf; intro a hf
                    refine sY hf hs rfl rfl rfl (Y_move rfl rfl) ?_; clear hf; intro a hf
                    obtain ⟨r510, hc511, hj473⟩ := bind_some hj473
                    refine sCall hf rfl rfl rfl rfl (cap := []) rfl rfl en139 (ih_ b_p0 x256 p0_graph_Places A_p0_graph_Places p0_graph_Places.length c_p0_graph_Places rfl x257 xs503 A501 xs503.length c502 rfl xs508 A264 n265 c266 ((hn267).trans (upd_len hu509).symm) p1 q474.To (IntKind.i64.wrap (p3 + r491)) _ _ hc511 (h_p0_graph_Places.pass hs [0, 1, 2]) (hs.sel [0, 1, 2] (by decide)).rebase) ?_; clear hf
                    rintro _ w ⟨A512, n513, c514, A516, n517, c518, rfl, hn515, hn519, hs1⟩ a hf
                    have hs : St (muL [.blk b_p0 151 [.int .i64 p0_graph_Events, .slice A_p0_graph_Places p0_graph_Places.length c_p0_graph_Places, .int .i64 p0_period, .slice A_p0_path p0_path.length c_p0_path, .slice A_p0_seen p0_seen.length c_p0_seen], .row A_p0_path p0_path.length c_p0_path 2 1 (ints p0_path), .row A_p0_seen p0_seen.length c_p0_seen 4 1 (bools p0_seen)]) W w [.blk b476 120 [.int .i64 q474.From, .int .i64 q474.To, .int .i64 q474.Delay, .int .i64 q474.Tokens], .row A499 1 1 2 1 (ints ([x268])), .blk b_p0 151 [.int .i64 r510.2.1, .slice A_p0_graph_Places p0_graph_Places.length c_p0_graph_Places, .int .i64 r510.2.2.1, .slice A512 n513 c514, .slice A516 n517 c518], .row A512 n513 c514 2 1 (ints r510.2.2.2.1), .row A516 n517 c518 4 1 (bools r510.2.2.2.2)] := St.mutTail (La := [.blk b476 120 [.int .i64 q474.From, .int .i64 q474.To, .int .i64 q474.Delay, .int .i64 q474.Tokens], .row A499 1 1 2 1 (ints ([x268]))]) (Lb := [.blk b_p0 151 [.int .i64 x256, .slice A_p0_graph_Places p0_graph_Places.length c_p0_graph_Places, .int .i64 x257, .slice A501 xs503.length c502, .slice A264 n265 c266], .row A501 xs503.length c502 2 1 (ints xs503), .row A264 n265 c266 4 1 (bools xs508)]) (hs.sel [3, 4, 0, 1, 2] (by decide)) hs1
                    clear hs1
                    refine wpO_nil ?_
                    refine wpL_cond hf rfl (fun hb520 => ?_) (fun hb520 => ?_)
                    · have hj473 := bif_t hj473 hb520
                      refine wpL_seq ?_
                      refine wpL_region ?_
                      refine sY hf hs rfl rfl rfl (Y_assign rfl rfl) ?_; clear hf; intro a hf
                      refine wpO_nil ?_
                      obtain rfl := Option.some.inj hj473
                      try dsimp only at hm404
                      obtain rfl := Option.some.inj hm404
                      try dsimp only at hm
                      obtain rfl := Option.some.inj hm
                      refine wpL_ret (Qb_ret (Ql_ret (Qb_ret (ret_tmp rfl hf rfl ?_))))
                      exact ⟨_, rfl, A512, n513, c514, A516, n517, c518, rfl, hn515, hn519, hs.sel [2, 3, 4] (by decide)⟩
                    · have hj473 := bif_f hj473 hb520
                      refine wpL_skip ?_
                      refine wpL_seq ?_
                      refine wpL_drawM [.blk b476 120 [.int .i64 q474.From, .int .i64 q474.To, .int .i64 q474.Delay, .int .i64 q474.Tokens], .row A499 1 1 2 1 (ints ([x268])), .blk b_p0 151 [.int .i64 r510.2.1, .slice A_p0_graph_Places p0_graph_Places.length c_p0_graph_Places, .int .i64 r510.2.2.1, .slice A512 n513 c514, .slice A516 n517 c518], .row A512 n513 c514 2 1 (ints r510.2.2.2.1), .row A516 n517 c518 4 1 (bools r510.2.2.2.2)] [7] (by kernel_rfl) hs ?_; clear hs; intro w hs
                      have hs0 : St (muL [.blk b_p0 151 [.int .i64 p0_graph_Events, .slice A_p0_graph_Places p0_graph_Places.length c_p0_graph_Places, .int .i64 p0_period, .slice A_p0_path p0_path.length c_p0_path, .slice A_p0_seen p0_seen.length c_p0_seen], .row A_p0_path p0_path.length c_p0_path 2 1 (ints p0_path), .row A_p0_seen p0_seen.length c_p0_seen 4 1 (bools p0_seen)]) W w [.blk b476 120 [.int .i64 q474.From, .int .i64 q474.To, .int .i64 q474.Delay, .int .i64 q474.Tokens], .row A499 1 1 2 1 (ints ([x268])), .blk b_p0 151 [.int .i64 r510.2.1, .slice A_p0_graph_Places p0_graph_Places.length c_p0_graph_Places, .int .i64 r510.2.2.1, .slice A512 n513 c514, .slice A516 n517 c518], .row A512 n513 c514 2 1 (ints r510.2.2.2.1), .row A516 n517 c518 4 1 (bools r510.2.2.2.2)] := hs
                      refine mYp (i := 0) rfl (by kernel_rfl) (by kernel_rfl) hf rfl rfl rfl (fun _ => Y_move rfl rfl) ?_; clear hf; intro a hf
                      refine mYp (i := 1) rfl (by kernel_rfl) (by kernel_rfl) hf rfl rfl rfl (fun _ => Y_nilCheck rfl rfl) ?_; clear hf; intro a hf
                      refine mYp (i := 2) rfl (by kernel_rfl) (by kernel_rfl) hf rfl rfl rfl (fun _ => Y_fieldAddr rfl rfl fo151_3) ?_; clear hf; intro a hf
                      refine mY (i := 3) [[]] rfl (by kernel_rfl) (by kernel_rfl) hf hs0 rfl rfl rfl (Y_load_blk rfl rfl (i := 2) rfl rfl ag144) ?_; clear hf; intro a hf
                      refine mYp (i := 4) rfl (by kernel_rfl) (by kernel_rfl) hf rfl rfl rfl (fun _ => Y_fieldAddr rfl rfl fo120_1) ?_; clear hf; intro a hf
                      refine mY (i := 5) [[]] rfl (by kernel_rfl) (by kernel_rfl) hf hs0 rfl rfl rfl (Y_load_blk rfl rfl (i := 0) rfl rfl ag2) ?_; clear hf; intro a hf
                      obtain ⟨q521, hi522, hj473⟩ := bind_some hj473
                      obtain ⟨hi522a, hi522b, hi522q⟩ := idx_some hi522
                      refine mYp (i := 6) rfl (by kernel_rfl) (by kernel_rfl) hf rfl rfl rfl (fun _ => Y_index rfl rfl rfl el144 ti4 (Rd.isAt (hs.rd (i := 4) rfl) (at1 (bools_at hi522q))) hi522a (ltn hn519 hi522b)) ?_; clear hf; intro a hf
                      refine mRun (i := 7) rfl (by kernel_rfl) ?_
                      obtain ⟨xs523, hu524, hj473⟩ := bind_some hj473
                      refine sStoreL (i := 4) (us := [.bool false]) (enc := bools) hf hs rfl rfl rfl rfl rfl rfl hn519 hu524 ti4 rfl rfl rfl rfl rfl bools_len1 (bools_set false) ?_; clear hs; intro w hs
                      have hs : St (muL [.blk b_p0 151 [.int .i64 p0_graph_Events, .slice A_p0_graph_Places p0_graph_Places.length c_p0_graph_Places, .int .i64 p0_period, .slice A_p0_path p0_path.length c_p0_path, .slice A_p0_seen p0_seen.length c_p0_seen], .row A_p0_path p0_path.length c_p0_path 2 1 (ints p0_path), .row A_p0_seen p0_seen.length c_p0_seen 4 1 (bools p0_seen)]) W w [.blk b476 120 [.int .i64 q474.From, .int .i64 q474.To, .int .i64 q474.Delay, .int .i64 q474.Tokens], .row A499 1 1 2 1 (ints ([x268])), .blk b_p0 151 [.int .i64 r510.2.1, .slice A_p0_graph_Places p0_graph_Places.length c_p0_graph_Places, .int .i64 r510.2.2.1, .slice A512 n513 c514, .slice A516 n517 c518], .row A512 n513 c514 2 1 (ints r510.2.2.2.1), .row A516 n517 c518 4 1 (bools xs523)] := hs
                      refine wpO_nil ⟨Or.inl (by decide), ?_⟩
                      refine mDone (by kernel_rfl) ?_
                      clear hs0
                      refine wpL_drawM [.blk b476 120 [.int .i64 q474.From, .int .i64 q474.To, .int .i64 q474.Delay, .int .i64 q474.Tokens], .row A499 1 1 2 1 (ints ([x268])), .blk b_p0 151 [.int .i64 r510.2.1, .slice A_p0_graph_Places p0_graph_Places.length c_p0_graph_Places, .int .i64 r510.2.2.1, .slice A512 n513 c514, .slice A516 n517 c518], .row A512 n513 c514 2 1 (ints r510.2.2.2.1), .row A516 n517 c518 4 1 (bools xs523)] [14] (by kernel_rfl) hs ?_; clear hs; intro w hs
                      have hs0 : St (muL [.blk b_p0 151 [.int .i64 p0_graph_Events, .slice A_p0_graph_Places p0_graph_Places.length c_p0_graph_Places, .int .i64 p0_period, .slice A_p0_path p0_path.length c_p0_path, .slice A_p0_seen p0_seen.length c_p0_seen], .row A_p0_path p0_path.length c_p0_path 2 1 (ints p0_path), .row A_p0_seen p0_seen.length c_p0_seen 4 1 (bools p0_seen)]) W w [.blk b476 120 [.int .i64 q474.From, .int .i64 q474.To, .int .i64 q474.Delay, .int .i64 q474.Tokens], .row A499 1 1 2 1 (ints ([x268])), .blk b_p0 151 [.int .i64 r510.2.1, .slice A_p0_graph_Places p0_graph_Places.length c_p0_graph_Places, .int .i64 r510.2.2.1, .slice A512 n513 c514, .slice A516 n517 c518], .row A512 n513 c514 2 1 (ints r510.2.2.2.1), .row A516 n517 c518 4 1 (bools xs523)] := hs
                      refine mYp (i := 0) rfl (by kernel_rfl) (by kernel_rfl) hf rfl rfl rfl (fun _ => Y_move rfl rfl) ?_; clear hf; intro a hf
                      refine mYp (i := 1) rfl (by kernel_rfl) (by kernel_rfl) hf rfl rfl rfl (fun _ => Y_move rfl rfl) ?_; clear hf; intro a hf
                      refine mYp (i := 2) rfl (by kernel_rfl) (by kernel_rfl) hf rfl rfl rfl (fun _ => Y_nilCheck rfl rfl) ?_; clear hf; intro a hf
                      refine mYp (i := 3) rfl (by kernel_rfl) (by kernel_rfl) hf rfl rfl rfl (fun _ => Y_fieldAddr rfl rfl fo151_2) ?_; clear hf; intro a hf
                      refine mY (i := 4) [[]] rfl (by kernel_rfl) (by kernel_rfl) hf hs0 rfl rfl rfl (Y_load_blk rfl rfl (i := 2) rfl rfl ag36) ?_; clear hf; intro a hf
                      refine mYp (i := 5) rfl (by kernel_rfl) (by kernel_rfl) hf rfl rfl rfl (fun _ => Y_move rfl rfl) ?_; clear hf; intro a hf
                      refine mYp (i := 6) rfl (by kernel_rfl) (by kernel_rfl) hf rfl rfl rfl (fun _ => Y_nilCheck rfl rfl) ?_; clear hf; intro a hf
                      refine mYp (i := 7) rfl (by kernel_rfl) (by kernel_rfl) hf rfl rfl rfl (fun _ => Y_fieldAddr rfl rfl fo151_2) ?_; clear hf; intro a hf
                      refine mY (i := 8) [[]] rfl (by kernel_rfl) (by kernel_rfl) hf hs0 rfl rfl rfl (Y_load_blk rfl rfl (i := 2) rfl rfl ag36) ?_; clear hf; intro a hf
                      refine mYp (i := 9) rfl (by kernel_rfl) (by kernel_rfl) hf rfl rfl rfl (fun _ => Y_lenH rfl rfl el36 hn515) ?_; clear hf; intro a hf
                      refine mYp (i := 10) rfl (by kernel_rfl) (by kernel_rfl) hf rfl rfl rfl (fun _ => Y_sub rfl rfl rfl) ?_; clear hf; intro a hf
                      obtain ⟨xs526, hk525, hj473⟩ := bind_some hj473
                      refine mY (i := 11) [[]] rfl (by kernel_rfl) (by kernel_rfl) hf hs0 rfl rfl rfl (Y_sliceH rfl rfl rfl (cutTo_some hk525).1 (leC hn515 (hs0.capR (i := 3) rfl) hk525) el36 ti2) ?_; clear hf; intro a hf
                      refine mYp (i := 12) rfl (by kernel_rfl) (by kernel_rfl) hf rfl rfl rfl (fun _ => Y_nilCheck rfl rfl) ?_; clear hf; intro a hf
                      refine mYp (i := 13) rfl (by kernel_rfl) (by kernel_rfl) hf rfl rfl rfl (fun _ => Y_fieldAddr rfl rfl fo151_2) ?_; clear hf; intro a hf
                      refine mRun (i := 14) rfl (by kernel_rfl) ?_
                      have hs := hs.cutInts (i := 3) rfl hn515 hk525
                      have hs : St (muL [.blk b_p0 151 [.int .i64 p0_graph_Events, .slice A_p0_graph_Places p0_graph_Places.length c_p0_graph_Places, .int .i64 p0_period, .slice A_p0_path p0_path.length c_p0_path, .slice A_p0_seen p0_seen.length c_p0_seen], .row A_p0_path p0_path.length c_p0_path 2 1 (ints p0_path), .row A_p0_seen p0_seen.length c_p0_seen 4 1 (bools p0_seen)]) W _ [.blk b476 120 [.int .i64 q474.From, .int .i64 q474.To, .int .i64 q474.Delay, .int .i64 q474.Tokens], .row A499 1 1 2 1 (ints ([x268])), .blk b_p0 151 [.int .i64 r510.2.1, .slice A_p0_graph_Places p0_graph_Places.length c_p0_graph_Places, .int .i64 r510.2.2.1, .slice A512 n513 c514, .slice A516 n517 c518], .row A512 ((IntKind.i64.wrap ((r510.2.2.2.1.length : Int) - 1)) : Int).toNat c514 2 1 (ints xs526), .row A516 n517 c518 4 1 (bools xs523)] := hs
                      refine sStore (i := 2) (us := [.slice A512 (((IntKind.i64.wrap ((r510.2.2.2.1.length : Int) - 1)) : Int).toNat) c514]) hf hs rfl rfl rfl rfl rfl rfl ti36 rfl rfl rfl (Nat.le_of_ble_eq_true rfl) rfl ?_; clear hs; intro w hs
                      have hs : St (muL [.blk b_p0 151 [.int .i64 p0_graph_Events, .slice A_p0_graph_Places p0_graph_Places.length c_p0_graph_Places, .int .i64 p0_period, .slice A_p0_path p0_path.length c_p0_path, .slice A_p0_seen p0_seen.length c_p0_seen], .row A_p0_path p0_path.length c_p0_path 2 1 (ints p0_path), .row A_p0_seen p0_seen.length c_p0_seen 4 1 (bools p0_seen)]) W w [.blk b476 120 [.int .i64 q474.From, .int .i64 q474.To, .int .i64 q474.Delay, .int .i64 q474.Tokens], .row A499 1 1 2 1 (ints ([x268])), .blk b_p0 151 [.int .i64 r510.2.1, .slice A_p0_graph_Places p0_graph_Places.length c_p0_graph_Places, .int .i64 r510.2.2.1, .slice A512 (((IntKind.i64.wrap ((r510.2.2.2.1.length : Int) - 1)) : Int).toNat) c514, .slice A516 n517 c518], .row A512 ((IntKind.i64.wrap ((r510.2.2.2.1.length : Int) - 1)) : Int).toNat c514 2 1 (ints xs526), .row A516 n517 c518 4 1 (bools xs523)] := hs
                      refine wpO_nil ⟨Or.inl (by decide), ?_⟩
                      refine mDone (by kernel_rfl) ?_
                      clear hs0
                      refine wpL_nil (Qb_normal ?_)
                      exact ⟨r510.2.1, r510.2.2.1, xs526, xs523, A512, ((IntKind.i64.wrap ((r510.2.2.2.1.length : Int) - 1)) : Int).toNat, c514, A516, n517, c518, Option.some.inj hj473, (pre_len hk525), ((hn519).trans (upd_len hu524).symm), (Fr.pick (Fr.pick (Fr.pick (Fr.pick (Fr.pick (Fr.pick (Fr.pick hf.none hf rfl) hf rfl) hf rfl) hf rfl) hf rfl) hf rfl) hf rfl), hs.sel [2, 3, 4] (by decide)⟩
        · rintro a w ⟨x460, x461, xs462, xs467, A463, n464, c465, A468, n469, c470, hr_, hn466, hn471, hf, hs⟩
          subst hr_
          try dsimp only at hm404
          refine wpL_region ?_
          refine sY hf hs rfl rfl rfl (Y_add rfl rfl rfl) ?_; clear hf; intro a hf
          refine sY hf hs rfl rfl rfl (Y_move rfl rfl) ?_; clear hf; intro a hf
          refine wpO_nil ?_
          refine wpL_nil (Ql_normal ?_)
          exact ⟨x460, x461, xs462, xs467, (IntKind.i64.wrap (x268 + 1)), A463, n464, c465, A468, n469, c470, hm404, hn466, hn471, (Fr.pick (Fr.pick (Fr.pick (Fr.pick (Fr.pick (Fr.pick (Fr.pick hf.none hf rfl) hf rfl) hf rfl) hf rfl) hf rfl) hf rfl) hf rfl), hs⟩
      · have hm404 := bif_f hm404 hb406
        refine wpL_exit (Ql_exit (Qb_exit ?_))
        exact ⟨x256, x257, xs258, xs263, A259, n260, c261, A264, n265, c266, Option.some.inj hm404, hn262, hn267, hf.none, hs⟩
  · rintro a w ⟨x390, x391, xs392, xs397, A393, n394, c395, A398, n399, c400, hr_, hn396, hn401, hf, hs⟩
    subst hr_
    try dsimp only at hm
    refine wpL_seq ?_
    refine wpL_region ?_
    refine sY hf hs rfl rfl rfl (Y_assign rfl rfl) ?_; clear hf; intro a hf
    refine wpO_nil ?_
    obtain rfl := Option.some.inj hm
    refine wpL_ret (ret_tmp rfl hf rfl ?_)
    exact ⟨_, rfl, A393, n394, c395, A398, n399, c400, rfl, hn396, hn401, hs⟩
theorem impl_conflictSearch_goOn_rec_ok (F : Nat) : ∀ (k_ : Nat) (b_p0 : Nat) (p0_graph_Events : Int) (p0_graph_Places : List GPlace) (A_p0_graph_Places : Option Addr) (n_p0_graph_Places c_p0_graph_Places : Nat) (_hn_p0_graph_Places : n_p0_graph_Places = p0_graph_Places.length) (p0_period : Int) (p0_path : List Int) (A_p0_path : Option Addr) (n_p0_path c_p0_path : Nat) (_hn_p0_path : n_p0_path = p0_path.length) (p0_seen : List Bool) (A_p0_seen : Option Addr) (n_p0_seen c_p0_seen : Nat) (_hn_p0_seen : n_p0_seen = p0_seen.length) (p1 : Int) (p2 : Int) (p3 : Int) (r : (Bool) × Int × Int × (List Int) × (List Bool)) (W : World) (_hm : impl_conflictSearch_goOn_rec F k_ p0_graph_Events p0_graph_Places p0_period p0_path p0_seen p1 p2 p3 = some r) (_h_p0_graph_Places : KR (muL [.blk b_p0 151 [.int .i64 p0_graph_Events, .slice A_p0_graph_Places n_p0_graph_Places c_p0_graph_Places, .int .i64 p0_period, .slice A_p0_path n_p0_path c_p0_path, .slice A_p0_seen n_p0_seen c_p0_seen], .row A_p0_path n_p0_path c_p0_path 2 1 (ints p0_path), .row A_p0_seen n_p0_seen c_p0_seen 4 1 (bools p0_seen)]) W A_p0_graph_Places ((recs GPlace.cells) p0_graph_Places)) (_hst : St (muL [.blk b_p0 151 [.int .i64 p0_graph_Events, .slice A_p0_graph_Places n_p0_graph_Places c_p0_graph_Places, .int .i64 p0_period, .slice A_p0_path n_p0_path c_p0_path, .slice A_p0_seen n_p0_seen c_p0_seen], .row A_p0_path n_p0_path c_p0_path 2 1 (ints p0_path), .row A_p0_seen n_p0_seen c_p0_seen 4 1 (bools p0_seen)]) W W [.blk b_p0 151 [.int .i64 p0_graph_Events, .slice A_p0_graph_Places n_p0_graph_Places c_p0_graph_Places, .int .i64 p0_period, .slice A_p0_path n_p0_path c_p0_path, .slice A_p0_seen n_p0_seen c_p0_seen], .row A_p0_path n_p0_path c_p0_path 2 1 (ints p0_path), .row A_p0_seen n_p0_seen c_p0_seen 4 1 (bools p0_seen)]), Calls Try.prog 139 [.pointer (some ⟨b_p0, 0, none⟩), .int .i64 p1, .int .i64 p2, .int .i64 p3].toArray W fun e w' => ∃ v, e = .returned v ∧ ∃ A3_, ∃ n3_, ∃ c3_, ∃ A4_, ∃ n4_, ∃ c4_, v = .bool r.1 ∧ n3_ = r.2.2.2.1.length ∧ n4_ = r.2.2.2.2.length ∧ St (muL [.blk b_p0 151 [.int .i64 p0_graph_Events, .slice A_p0_graph_Places n_p0_graph_Places c_p0_graph_Places, .int .i64 p0_period, .slice A_p0_path n_p0_path c_p0_path, .slice A_p0_seen n_p0_seen c_p0_seen], .row A_p0_path n_p0_path c_p0_path 2 1 (ints p0_path), .row A_p0_seen n_p0_seen c_p0_seen 4 1 (bools p0_seen)]) W w' [.blk b_p0 151 [.int .i64 r.2.1, .slice A_p0_graph_Places n_p0_graph_Places c_p0_graph_Places, .int .i64 r.2.2.1, .slice A3_ n3_ c3_, .slice A4_ n4_ c4_], .row A3_ n3_ c3_ 2 1 (ints r.2.2.2.1), .row A4_ n4_ c4_ 4 1 (bools r.2.2.2.2)]
  | 0 => by intros; simp [impl_conflictSearch_goOn_rec] at *
  | k_ + 1 => impl_conflictSearch_goOn_step F k_ (impl_conflictSearch_goOn_rec_ok F k_)
theorem impl_conflictSearch_goOn_ok (F : Nat) : ∀ (b_p0 : Nat) (p0_graph_Events : Int) (p0_graph_Places : List GPlace) (A_p0_graph_Places : Option Addr) (n_p0_graph_Places c_p0_graph_Places : Nat) (_hn_p0_graph_Places : n_p0_graph_Places = p0_graph_Places.length) (p0_period : Int) (p0_path : List Int) (A_p0_path : Option Addr) (n_p0_path c_p0_path : Nat) (_hn_p0_path : n_p0_path = p0_path.length) (p0_seen : List Bool) (A_p0_seen : Option Addr) (n_p0_seen c_p0_seen : Nat) (_hn_p0_seen : n_p0_seen = p0_seen.length) (p1 : Int) (p2 : Int) (p3 : Int) (r : (Bool) × Int × Int × (List Int) × (List Bool)) (W : World) (_hm : impl_conflictSearch_goOn F p0_graph_Events p0_graph_Places p0_period p0_path p0_seen p1 p2 p3 = some r) (_h_p0_graph_Places : KR (muL [.blk b_p0 151 [.int .i64 p0_graph_Events, .slice A_p0_graph_Places n_p0_graph_Places c_p0_graph_Places, .int .i64 p0_period, .slice A_p0_path n_p0_path c_p0_path, .slice A_p0_seen n_p0_seen c_p0_seen], .row A_p0_path n_p0_path c_p0_path 2 1 (ints p0_path), .row A_p0_seen n_p0_seen c_p0_seen 4 1 (bools p0_seen)]) W A_p0_graph_Places ((recs GPlace.cells) p0_graph_Places)) (_hst : St (muL [.blk b_p0 151 [.int .i64 p0_graph_Events, .slice A_p0_graph_Places n_p0_graph_Places c_p0_graph_Places, .int .i64 p0_period, .slice A_p0_path n_p0_path c_p0_path, .slice A_p0_seen n_p0_seen c_p0_seen], .row A_p0_path n_p0_path c_p0_path 2 1 (ints p0_path), .row A_p0_seen n_p0_seen c_p0_seen 4 1 (bools p0_seen)]) W W [.blk b_p0 151 [.int .i64 p0_graph_Events, .slice A_p0_graph_Places n_p0_graph_Places c_p0_graph_Places, .int .i64 p0_period, .slice A_p0_path n_p0_path c_p0_path, .slice A_p0_seen n_p0_seen c_p0_seen], .row A_p0_path n_p0_path c_p0_path 2 1 (ints p0_path), .row A_p0_seen n_p0_seen c_p0_seen 4 1 (bools p0_seen)]), Calls Try.prog 139 [.pointer (some ⟨b_p0, 0, none⟩), .int .i64 p1, .int .i64 p2, .int .i64 p3].toArray W fun e w' => ∃ v, e = .returned v ∧ ∃ A3_, ∃ n3_, ∃ c3_, ∃ A4_, ∃ n4_, ∃ c4_, v = .bool r.1 ∧ n3_ = r.2.2.2.1.length ∧ n4_ = r.2.2.2.2.length ∧ St (muL [.blk b_p0 151 [.int .i64 p0_graph_Events, .slice A_p0_graph_Places n_p0_graph_Places c_p0_graph_Places, .int .i64 p0_period, .slice A_p0_path n_p0_path c_p0_path, .slice A_p0_seen n_p0_seen c_p0_seen], .row A_p0_path n_p0_path c_p0_path 2 1 (ints p0_path), .row A_p0_seen n_p0_seen c_p0_seen 4 1 (bools p0_seen)]) W w' [.blk b_p0 151 [.int .i64 r.2.1, .slice A_p0_graph_Places n_p0_graph_Places c_p0_graph_Places, .int .i64 r.2.2.1, .slice A3_ n3_ c3_, .slice A4_ n4_ c4_], .row A3_ n3_ c3_ 2 1 (ints r.2.2.2.1), .row A4_ n4_ c4_ 4 1 (bools r.2.2.2.2)] := impl_conflictSearch_goOn_rec_ok F F

set_option maxHeartbeats 2000000 in
set_option maxRecDepth 100000 in
theorem impl_firstConflict_ok (F : Nat) (p0 : GEventGraph) (A_p0_1 : Option Addr) (n_p0_1 c_p0_1 : Nat) (hn_p0_1 : n_p0_1 = p0.Places.length) (p1 : Int) (r : List Int) (W : World) (hm : impl_firstConflict F p0 p1 = some r) (h_p0_1 : Rd W A_p0_1 ((recs GPlace.cells) p0.Places)) :
    Calls Try.prog 92 [.agg #[.int .i64 p0.Events, .slice A_p0_1 n_p0_1 c_p0_1], .int .i64 p1].toArray W fun e w' => ∃ v, e = .returned v ∧ ∃ A553, ∃ n554, ∃ c555, v = .slice A553 n554 c555 ∧ n554 = r.length ∧ St [] W w' [.row A553 n554 c555 2 1 (ints r)] := by
  subst hn_p0_1
  unfold impl_firstConflict at hm
  refine Calls.enter (N := 72) Try.func92 rfl rfl rfl (fun a hf => ?_)
  have hs := St.start W
  obtain ⟨w, hw_⟩ : ∃ w, w = W := ⟨W, rfl⟩
  clear hw_ w
  refine wpL_seq ?_
  refine wpL_region ?_
  refine sBox hf hs rfl rfl rfl rfl rfl (cs := [.int .i64 p0.Events, .slice A_p0_1 p0.Places.length c_p0_1]) rfl ?_; clear hf hs; intro a w b1 hs hf
  have hs : St [] W w [.blk b1 30 [.int .i64 p0.Events, .slice A_p0_1 p0.Places.length c_p0_1]] := hs
  refine sY hf hs rfl rfl rfl (Y_assign rfl rfl) ?_; clear hf; intro a hf
  refine wpO_nil ?_
  refine wpL_seq ?_
  refine wpL_seq ?_
  refine wpL_region ?_
  refine sY hf hs rfl rfl rfl (Y_fieldAddr rfl rfl fo30_1) ?_; clear hf; intro a hf
  refine sY hf hs rfl rfl rfl (Y_load_blk rfl rfl (i := 0) rfl rfl ag28) ?_; clear hf; intro a hf
  refine sY hf hs rfl rfl rfl (Y_lenH rfl rfl el28 rfl) ?_; clear hf; intro a hf
  refine sY hf hs rfl rfl rfl (Y_move rfl rfl) ?_; clear hf; intro a hf
  refine wpO_nil ?_
  obtain ⟨r412, hl413, hm⟩ := bind_some hm
  refine wpL_block (fun a w => Sum.inr () = r412 ∧ Fr a 72 [] ∧ St [] W w []) ?_ ?_
  · refine wpL_loop (fun n a w => ∃ x275 : Int, impl_firstConflict_L1 F p0 p1 n x275 = some r412 ∧ Fr a 72 [(1, .int .i64 p1), (2, .pointer (some ⟨b1, 0, none⟩)), (10, .slice A_p0_1 p0.Places.length c_p0_1), (11, .int .i64 (p0.Places.length : Int)), (12, .int .i64 x275)] ∧ St [] W w [.blk b1 30 [.int .i64 p0.Events, .slice A_p0_1 p0.Places.length c_p0_1]]) F ?_ ?_ ?_
    · exact ⟨0, hl413, (Fr.pick (Fr.pick (Fr.pick (Fr.pick (Fr.pick hf.none hf rfl) hf rfl) hf rfl) hf rfl) hf rfl), hs⟩
    · rintro a w ⟨x275, h0_, -, -⟩; simp [impl_firstConflict_L1] at h0_
    · rintro n415 a w ⟨x275, hm414, hf, hs⟩
      rw [impl_firstConflict_L1] at hm414
      refine wpL_seq ?_
      refine wpL_region ?_
      refine sY hf hs rfl rfl rfl (Y_lss rfl rfl rfl) ?_; clear hf; intro a hf
      refine wpO_nil ?_
      refine wpL_seq ?_
      refine wpL_cond hf rfl (fun hb416 => ?_) (fun hb416 => ?_)
      · have hm414 := bif_t hm414 hb416
        refine wpL_skip ?_
        refine wpL_seq ?_
        refine wpL_block0 ?_
        refine wpL_seq ?_
        refine wpL_region ?_
        refine sY hf hs rfl rfl rfl (Y_move rfl rfl) ?_; clear hf; intro a hf
        obtain ⟨q417, hi418, hm414⟩ := bind_some hm414
        obtain ⟨hi418a, hi418b, hi418q⟩ := idx_some hi418
        refine sY hf hs rfl rfl rfl (Y_index rfl rfl rfl el28 ti120 (Rd.isAt (h_p0_1.at hs) (recs_at (s := 4) GPlace.len hi418q (j := 0) rfl)) hi418a hi418b) ?_; clear hf; intro a hf
        refine sY hf hs rfl rfl rfl (Y_load_rdS rfl rfl (us := [.int .i64 q417.From, .int .i64 q417.To, .int .i64 q417.Delay, .int .i64 q417.Tokens]) (fun w hs => h_p0_1.at hs) (fun j u hj => recs_at (s := 4) GPlace.len hi418q hj) (Nat.succ_pos _) ag120 ti120 rfl) ?_; clear hf; intro a hf
        refine sAlloc hf hs rfl rfl rfl rfl ti120 ?_; clear hf hs; intro a w b419 hs hf
        have hs : St [] W w [.blk b1 30 [.int .i64 p0.Events, .slice A_p0_1 p0.Places.length c_p0_1], .blk b419 120 [.int .i64 0, .int .i64 0, .int .i64 0, .int .i64 0]] := hs
        refine sY hf hs rfl rfl rfl (Y_assign rfl rfl) ?_; clear hf; intro a hf
        refine sStore (i := 1) (us := [.int .i64 q417.From, .int .i64 q417.To, .int .i64 q417.Delay, .int .i64 q417.Tokens]) hf hs rfl rfl rfl rfl rfl rfl ti120 rfl rfl rfl (Nat.le_of_ble_eq_true rfl) rfl ?_; clear hs; intro w hs
        have hs : St [] W w [.blk b1 30 [.int .i64 p0.Events, .slice A_p0_1 p0.Places.length c_p0_1], .blk b419 120 [.int .i64 q417.From, .int .i64 q417.To, .int .i64 q417.Delay, .int .i64 q417.Tokens]] := hs
        refine wpO_nil ?_
        refine wpL_seq ?_
        refine wpL_region ?_
        refine sY hf hs rfl rfl rfl (Y_load_blkS rfl rfl (i := 1) rfl ag120 ti120 rfl) ?_; clear hf; intro a hf
        refine sY hf hs rfl rfl rfl (Y_move rfl rfl) ?_; clear hf; intro a hf
        refine sY hf hs rfl rfl rfl (Y_build (parts := [(0, .tmp 18), (1, .const (.int .i64 1))]) (vs := [.int .i64 p1, .int .i64 1]) rfl rfl (run_build (parts := [(0, .int .i64 p1), (1, .int .i64 1)]) (cells := [.int .i64 p1, .int .i64 1]) (places := #[(0, 1), (1, 1)]) ti84 Try.underlying84 (fun w => by simp [go_sem]) rfl)) ?_; clear hf; intro a hf
        obtain ⟨r420, hc421, hm414⟩ := bind_some hm414
        refine sCall hf rfl rfl rfl rfl (cap := []) rfl rfl en127 (impl_placeWeight_ok F q417 (GRatio.mk p1 1) _ _ hc421) ?_; clear hf
        rintro _ w ⟨rfl, hs1⟩ a hf
        have hs : St [] W w [.blk b1 30 [.int .i64 p0.Events, .slice A_p0_1 p0.Places.length c_p0_1], .blk b419 120 [.int .i64 q417.From, .int .i64 q417.To, .int .i64 q417.Delay, .int .i64 q417.Tokens]] := hs.ext hs1.below
        clear hs1
        refine sY hf hs rfl rfl rfl (Y_assign rfl rfl) ?_; clear hf; intro a hf
        refine wpO_nil ?_
        refine wpL_block0 ?_
        refine wpL_seq ?_
        refine wpL_region ?_
        refine sY hf hs rfl rfl rfl (Y_fieldAddr rfl rfl fo120_1) ?_; clear hf; intro a hf
        refine sY hf hs rfl rfl rfl (Y_load_blk rfl rfl (i := 1) rfl rfl ag2) ?_; clear hf; intro a hf
        refine sY hf hs rfl rfl rfl (Y_fieldAddr rfl rfl fo120_0) ?_; clear hf; intro a hf
        refine sY hf hs rfl rfl rfl (Y_load_blk rfl rfl (i := 1) rfl rfl ag2) ?_; clear hf; intro a hf
        refine sY hf hs rfl rfl rfl (Y_lss rfl rfl rfl) ?_; clear hf; intro a hf
        refine sY hf hs rfl rfl rfl (Y_assign rfl rfl) ?_; clear hf; intro a hf
        refine wpO_nil ?_
        refine wpL_cond hf rfl (fun hb422 => ?_) (fun hb422 => ?_)
        · have hm414 := bif_t hm414 hb422
          refine wpL_skip ?_
          refine wpL_nil (Qb_normal ?_)
          refine wpL_nil (Qb_normal ?_)
          refine wpL_region ?_
          refine sY hf hs rfl rfl rfl (Y_add rfl rfl rfl) ?_; clear hf; intro a hf
          refine sY hf hs rfl rfl rfl (Y_move rfl rfl) ?_; clear hf; intro a hf
          refine wpO_nil ?_
          refine wpL_nil (Ql_normal ?_)
          exact ⟨(IntKind.i64.wrap (x275 + 1)), hm414, (Fr.pick (Fr.pick (Fr.pick (Fr.pick (Fr.pick hf.none hf rfl) hf rfl) hf rfl) hf rfl) hf rfl), hs.sel [0] (by decide)⟩
        · have hm414 := bif_f hm414 hb422
          refine wpL_seq ?_
          obtain ⟨r425, hj426, hm414⟩ := bind_some hm414
          refine wpL_cut (fun a w => ∃ b424 : Bool, b424 = r425 ∧ Fr a 72 [(1, .int .i64 p1), (2, .pointer (some ⟨b1, 0, none⟩)), (5, .int .i64 x275), (6, .pointer (some ⟨b419, 0, none⟩)), (7, .int .i64 r420), (10, .slice A_p0_1 p0.Places.length c_p0_1), (11, .int .i64 (p0.Places.length : Int)), (12, .int .i64 x275), (27, .bool b424)] ∧ St [] W w [.blk b1 30 [.int .i64 p0.Events, .slice A_p0_1 p0.Places.length c_p0_1], .blk b419 120 [.int .i64 q417.From, .int .i64 q417.To, .int .i64 q417.Delay, .int .i64 q417.Tokens]]) ?_ ?_
          · refine wpL_region ?_
            refine sY hf hs rfl rfl rfl (Y_fieldAddr rfl rfl fo120_1) ?_; clear hf; intro a hf
            refine sY hf hs rfl rfl rfl (Y_load_blk rfl rfl (i := 1) rfl rfl ag2) ?_; clear hf; intro a hf
            refine sY hf hs rfl rfl rfl (Y_fieldAddr rfl rfl fo120_0) ?_; clear hf; intro a hf
            refine sY hf hs rfl rfl rfl (Y_load_blk rfl rfl (i := 1) rfl rfl ag2) ?_; clear hf; intro a hf
            refine sY hf hs rfl rfl rfl (Y_eql rfl rfl rfl) ?_; clear hf; intro a hf
            refine sY hf hs rfl rfl rfl (Y_move rfl rfl) ?_; clear hf; intro a hf
            refine bsplit (q417.To == q417.From) (fun hb427 => ?_) (fun hb427 => ?_)
            · have hj426 := bif_t hj426 hb427
              refine sYg hf hs rfl rfl rfl (congrArg (fun b => some (Value.bool b)) hb427) rfl rfl rfl (Y_move rfl rfl) ?_; clear hf; intro a hf
              refine sYg hf hs rfl rfl rfl (congrArg (fun b => some (Value.bool b)) hb427) rfl rfl rfl (Y_gtr rfl rfl rfl) ?_; clear hf; intro a hf
              refine sY hf hs rfl rfl rfl (Y_pickT rfl (congrArg (fun b => some (Value.bool b)) hb427) rfl) ?_; clear hf; intro a hf
              refine sY hf hs rfl rfl rfl (Y_assign rfl rfl) ?_; clear hf; intro a hf
              refine wpO_nil ?_
              refine wpL_nil (then_normal ?_)
              exact ⟨(decide (0 < r420)), Option.some.inj hj426, (Fr.pick (Fr.pick (Fr.pick (Fr.pick (Fr.pick (Fr.pick (Fr.pick (Fr.pick (Fr.pick hf.none hf rfl) hf rfl) hf rfl) hf rfl) hf rfl) hf rfl) hf rfl) hf rfl) hf rfl), hs⟩
            · have hj426 := bif_f hj426 hb427
              refine sNo hf rfl rfl rfl (congrArg (fun b => some (Value.bool b)) hb427) rfl rfl rfl ?_; clear hf; intro a hf
              refine sNo hf rfl rfl rfl (congrArg (fun b => some (Value.bool b)) hb427) rfl rfl rfl ?_; clear hf; intro a hf
              refine sY hf hs rfl rfl rfl (Y_pickF rfl (congrArg (fun b => some (Value.bool b)) hb427) rfl) ?_; clear hf; intro a hf
              refine sY hf hs rfl rfl rfl (Y_assign rfl rfl) ?_; clear hf; intro a hf
              refine wpO_nil ?_
              refine wpL_nil (then_normal ?_)
              exact ⟨false, Option.some.inj hj426, (Fr.pick (Fr.pick (Fr.pick (Fr.pick (Fr.pick (Fr.pick (Fr.pick (Fr.pick (Fr.pick hf.none hf rfl) hf rfl) hf rfl) hf rfl) hf rfl) hf rfl) hf rfl) hf rfl) hf rfl), hs⟩
          · rintro a w ⟨b424, hr_, hf, hs⟩
            subst hr_
            try dsimp only at hm414
            refine wpL_cond hf rfl (fun hb428 => ?_) (fun hb428 => ?_)
            · have hm414 := bif_t hm414 hb428
              refine wpL_seq ?_
              refine wpL_region ?_
              refine sY hf hs rfl rfl rfl (Y_move rfl rfl) ?_; clear hf; intro a hf
              refine sBuildSlice (parts := [(0, .tmp 37)]) (vs := [.int .i64 x275]) (cells := [.int .i64 x275]) hf hs rfl rfl rfl rfl rfl el36 ti2 rfl rfl rfl rfl ?_; clear hf hs; intro a w A429 hs hA430 hf
              have hs : St [] W w [.blk b1 30 [.int .i64 p0.Events, .slice A_p0_1 p0.Places.length c_p0_1], .blk b419 120 [.int .i64 q417.From, .int .i64 q417.To, .int .i64 q417.Delay, .int .i64 q417.Tokens], .row A429 1 1 2 1 (ints ([x275]))] := hs
              refine sY hf hs rfl rfl rfl (Y_assign rfl rfl) ?_; clear hf; intro a hf
              refine wpO_nil ?_
              obtain rfl := Option.some.inj hm414
              try dsimp only at hm
              obtain rfl := Option.some.inj hm
              refine wpL_ret (Qb_ret (Qb_ret (Ql_ret (Qb_ret (ret_tmp rfl hf rfl ?_)))))
              exact ⟨_, rfl, A429, 1, 1, rfl, rfl, hs.sel [2] (by decide)⟩
            · have hm414 := bif_f hm414 hb428
              refine wpL_seq ?_
              refine wpL_region ?_
              refine sY hf hs rfl rfl rfl (Y_fieldAddr rfl rfl fo120_1) ?_; clear hf; intro a hf
              refine sY hf hs rfl rfl rfl (Y_load_blk rfl rfl (i := 1) rfl rfl ag2) ?_; clear hf; intro a hf
              refine sY hf hs rfl rfl rfl (Y_fieldAddr rfl rfl fo120_0) ?_; clear hf; intro a hf
              refine sY hf hs rfl rfl rfl (Y_load_blk rfl rfl (i := 1) rfl rfl ag2) ?_; clear hf; intro a hf
              refine sY hf hs rfl rfl rfl (Y_gtr rfl rfl rfl) ?_; clear hf; intro a hf
              refine sY hf hs rfl rfl rfl (Y_assign rfl rfl) ?_; clear hf; intro a hf
              refine wpO_nil ?_
              refine wpL_cond hf rfl (fun hb431 => ?_) (fun hb431 => ?_)
              · have hm414 := bif_t hm414 hb431
                refine wpL_seq ?_
                obtain ⟨r487, hj488, hm414⟩ := bind_some hm414
                refine wpL_cut (fun a w => ∃ x469 : Int, ∃ xs470 : List GPlace, ∃ x476 : Int, ∃ xs477 : List Int, ∃ xs482 : List Bool, ∃ b468, ∃ A471, ∃ n472, ∃ c473, ∃ A478, ∃ n479, ∃ c480, ∃ A483, ∃ n484, ∃ c485, (x469, xs470, x476, xs477, xs482) = r487 ∧ n472 = xs470.length ∧ Rd W A471 ((recs GPlace.cells) xs470) ∧ n479 = xs477.length ∧ n484 = xs482.length ∧ Fr a 72 [(1, .int .i64 p1), (2, .pointer (some ⟨b1, 0, none⟩)), (6, .pointer (some ⟨b419, 0, none⟩)), (7, .int .i64 r420), (8, .pointer (some ⟨b468, 0, none⟩)), (10, .slice A_p0_1 p0.Places.length c_p0_1), (11, .int .i64 (p0.Places.length : Int)), (12, .int .i64 x275)] ∧ St [] W w [.blk b1 30 [.int .i64 p0.Events, .slice A_p0_1 p0.Places.length c_p0_1], .blk b419 120 [.int .i64 q417.From, .int .i64 q417.To, .int .i64 q417.Delay, .int .i64 q417.Tokens], .blk b468 151 [.int .i64 x469, .slice A471 n472 c473, .int .i64 x476, .slice A478 n479 c480, .slice A483 n484 c485], .row A478 n479 c480 2 1 (ints xs477), .row A483 n484 c485 4 1 (bools xs482)]) ?_ ?_
                · refine wpL_drawM [.blk b1 30 [.int .i64 p0.Events, .slice A_p0_1 p0.Places.length c_p0_1], .blk b419 120 [.int .i64 q417.From, .int .i64 q417.To, .int .i64 q417.Delay, .int .i64 q417.Tokens]] [9] (by kernel_rfl) hs ?_; clear hs; intro w hs
                  have hs0 : St [] W w [.blk b1 30 [.int .i64 p0.Events, .slice A_p0_1 p0.Places.length c_p0_1], .blk b419 120 [.int .i64 q417.From, .int .i64 q417.To, .int .i64 q417.Delay, .int .i64 q417.Tokens]] := hs
                  refine mY (i := 0) [[]] rfl (by kernel_rfl) (by kernel_rfl) hf hs0 rfl rfl rfl (Y_load_blkS rfl rfl (i := 0) rfl ag30 ti30 rfl) ?_; clear hf; intro a hf
                  refine mYp (i := 1) rfl (by kernel_rfl) (by kernel_rfl) hf rfl rfl rfl (fun _ => Y_move rfl rfl) ?_; clear hf; intro a hf
                  refine mYp (i := 2) rfl (by kernel_rfl) (by kernel_rfl) hf rfl rfl rfl (fun _ => Y_move rfl rfl) ?_; clear hf; intro a hf
                  refine mYp (i := 4) rfl (by kernel_rfl) (by kernel_rfl) hf rfl rfl rfl (fun _ => Y_fieldAddr rfl rfl fo30_0) ?_; clear hf; intro a hf
                  refine mY (i := 5) [[]] rfl (by kernel_rfl) (by kernel_rfl) hf hs0 rfl rfl rfl (Y_load_blk rfl rfl (i := 0) rfl rfl ag2) ?_; clear hf; intro a hf
                  refine mRun3 (i := 3) (j := 6) (k := 8) rfl rfl rfl (by kernel_rfl) ?_ ?_ ?_
                  · refine sBuildSlice (parts := [(0, .tmp 47)]) (vs := [.int .i64 x275]) (cells := [.int .i64 x275]) hf hs rfl rfl rfl rfl rfl el36 ti2 rfl rfl rfl rfl ?_; clear hf hs; intro a w A495 hs hA496 hf
                    have hs : St [] W w [.blk b1 30 [.int .i64 p0.Events, .slice A_p0_1 p0.Places.length c_p0_1], .blk b419 120 [.int .i64 q417.From, .int .i64 q417.To, .int .i64 q417.Delay, .int .i64 q417.Tokens], .row A495 1 1 2 1 (ints ([x275]))] := hs
                    have hs0 : St [] W w [.blk b1 30 [.int .i64 p0.Events, .slice A_p0_1 p0.Places.length c_p0_1], .blk b419 120 [.int .i64 q417.From, .int .i64 q417.To, .int .i64 q417.Delay, .int .i64 q417.Tokens]] := hs.sel [0, 1] (by decide)
                    refine wpO_nil ⟨Or.inr (fun _ => hs0), ?_⟩
                    refine mRun2 (i := 6) (j := 8) rfl rfl (by kernel_rfl) ?_ ?_
                    · obtain ⟨xs499, hk498, hj488⟩ := bind_some hj488
                      refine sMakeL (enc := bools) hf hs rfl rfl rfl rfl rfl hk498 el144 ti4 rfl bools_made ?_; clear hf hs; intro a w A497 hs hf
                      have hs : St [] W w [.blk b1 30 [.int .i64 p0.Events, .slice A_p0_1 p0.Places.length c_p0_1], .blk b419 120 [.int .i64 q417.From, .int .i64 q417.To, .int .i64 q417.Delay, .int .i64 q417.Tokens], .row A495 1 1 2 1 (ints ([x275])), .row A497 xs499.length xs499.length 4 1 (bools xs499)] := hs
                      have hs0 : St [] W w [.blk b1 30 [.int .i64 p0.Events, .slice A_p0_1 p0.Places.length c_p0_1], .blk b419 120 [.int .i64 q417.From, .int .i64 q417.To, .int .i64 q417.Delay, .int .i64 q417.Tokens]] := hs.sel [0, 1] (by decide)
                      refine wpO_nil ⟨Or.inr (fun _ => hs0), ?_⟩
                      refine mYp (i := 7) rfl (by kernel_rfl) (by kernel_rfl) hf rfl rfl rfl (fun _ => Y_build (parts := [(0, .tmp 45), (1, .tmp 46), (2, .tmp 48), (3, .tmp 51)]) (vs := [.agg #[.int .i64 p0.Events, .slice A_p0_1 p0.Places.length c_p0_1], .int .i64 p1, .slice A495 1 1, .slice A497 xs499.length xs499.length]) rfl rfl (run_build (parts := [(0, .agg #[.int .i64 p0.Events, .slice A_p0_1 p0.Places.length c_p0_1]), (1, .int .i64 p1), (2, .slice A495 1 1), (3, .slice A497 xs499.length xs499.length)]) (cells := [.int .i64 p0.Events, .slice A_p0_1 p0.Places.length c_p0_1, .int .i64 p1, .slice A495 1 1, .slice A497 xs499.length xs499.length]) (places := #[(0, 2), (2, 1), (3, 1), (4, 1)]) ti151 Try.underlying151 (fun w => by simp [go_sem]) rfl)) ?_; clear hf; intro a hf
                      refine mRun (i := 8) rfl (by kernel_rfl) ?_
                      refine sAlloc hf hs rfl rfl rfl rfl ti151 ?_; clear hf hs; intro a w b500 hs hf
                      have hs : St [] W w [.blk b1 30 [.int .i64 p0.Events, .slice A_p0_1 p0.Places.length c_p0_1], .blk b419 120 [.int .i64 q417.From, .int .i64 q417.To, .int .i64 q417.Delay, .int .i64 q417.Tokens], .row A495 1 1 2 1 (ints ([x275])), .row A497 xs499.length xs499.length 4 1 (bools xs499), .blk b500 151 [.int .i64 0, .slice none 0 0, .int .i64 0, .slice none 0 0, .slice none 0 0]] := hs
                      have hs0 : St [] W w [.blk b1 30 [.int .i64 p0.Events, .slice A_p0_1 p0.Places.length c_p0_1], .blk b419 120 [.int .i64 q417.From, .int .i64 q417.To, .int .i64 q417.Delay, .int .i64 q417.Tokens]] := hs.sel [0, 1] (by decide)
                      refine wpO_nil ⟨Or.inr (fun _ => hs0), ?_⟩
                      refine mRun (i := 9) rfl (by kernel_rfl) ?_
                      refine sStore (i := 4) (us := [.int .i64 p0.Events, .slice A_p0_1 p0.Places.length c_p0_1, .int .i64 p1, .slice A495 1 1, .slice A497 xs499.length xs499.length]) hf hs rfl rfl rfl rfl rfl rfl ti151 rfl rfl rfl (Nat.le_of_ble_eq_true rfl) rfl ?_; clear hs; intro w hs
                      have hs : St [] W w [.blk b1 30 [.int .i64 p0.Events, .slice A_p0_1 p0.Places.length c_p0_1], .blk b419 120 [.int .i64 q417.From, .int .i64 q417.To, .int .i64 q417.Delay, .int .i64 q417.Tokens], .row A495 1 1 2 1 (ints ([x275])), .row A497 xs499.length xs499.length 4 1 (bools xs499), .blk b500 151 [.int .i64 p0.Events, .slice A_p0_1 p0.Places.length c_p0_1, .int .i64 p1, .slice A495 1 1, .slice A497 xs499.length xs499.length]] := hs
                      refine wpO_nil ⟨Or.inl (by decide), ?_⟩
                      refine mDone (by kernel_rfl) ?_
                      clear hs0
                      refine wpL_nil (then_normal ?_)
                      exact ⟨p0.Events, p0.Places, p1, [x275], xs499, b500, A_p0_1, p0.Places.length, c_p0_1, A495, 1, 1, A497, xs499.length, xs499.length, Option.some.inj hj488, rfl, h_p0_1, rfl, rfl, (Fr.pick (Fr.pick (Fr.pick (Fr.pick (Fr.pick (Fr.pick (Fr.pick (Fr.pick hf.none hf rfl) hf rfl) hf rfl) hf rfl) hf rfl) hf rfl) hf rfl) hf rfl), hs.sel [0, 1, 4, 2, 3] (by decide)⟩
                    · refine sAlloc hf hs rfl rfl rfl rfl ti151 ?_; clear hf hs; intro a w b501 hs hf
                      have hs : St [] W w [.blk b1 30 [.int .i64 p0.Events, .slice A_p0_1 p0.Places.length c_p0_1], .blk b419 120 [.int .i64 q417.From, .int .i64 q417.To, .int .i64 q417.Delay, .int .i64 q417.Tokens], .row A495 1 1 2 1 (ints ([x275])), .blk b501 151 [.int .i64 0, .slice none 0 0, .int .i64 0, .slice none 0 0, .slice none 0 0]] := hs
                      have hs0 : St [] W w [.blk b1 30 [.int .i64 p0.Events, .slice A_p0_1 p0.Places.length c_p0_1], .blk b419 120 [.int .i64 q417.From, .int .i64 q417.To, .int .i64 q417.Delay, .int .i64 q417.Tokens]] := hs.sel [0, 1] (by decide)
                      refine wpO_nil ⟨Or.inr (fun _ => hs0), ?_⟩
                      refine mRun (i := 6) rfl (by kernel_rfl) ?_
                      obtain ⟨xs504, hk503, hj488⟩ := bind_some hj488
                      refine sMakeL (enc := bools) hf hs rfl rfl rfl rfl rfl hk503 el144 ti4 rfl bools_made ?_; clear hf hs; intro a w A502 hs hf
                      have hs : St [] W w [.blk b1 30 [.int .i64 p0.Events, .slice A_p0_1 p0.Places.length c_p0_1], .blk b419 120 [.int .i64 q417.From, .int .i64 q417.To, .int .i64 q417.Delay, .int .i64 q417.Tokens], .row A495 1 1 2 1 (ints ([x275])), .blk b501 151 [.int .i64 0, .slice none 0 0, .int .i64 0, .slice none 0 0, .slice none 0 0], .row A502 xs504.length xs504.length 4 1 (bools xs504)] := hs
                      have hs0 : St [] W w [.blk b1 30 [.int .i64 p0.Events, .slice A_p0_1 p0.Places.length c_p0_1], .blk b419 120 [.int .i64 q417.From, .int .i64 q417.To, .int .i64 q417.Delay, .int .i64 q417.Tokens]] := hs.sel [0, 1] (by decide)
                      refine wpO_nil ⟨Or.inr (fun _ => hs0), ?_⟩
                      refine mYp (i := 7) rfl (by kernel_rfl) (by kernel_rfl) hf rfl rfl rfl (fun _ => Y_build (parts := [(0, .tmp 45), (1, .tmp 46), (2, .tmp 48), (3, .tmp 51)]) (vs := [.agg #[.int .i64 p0.Events, .slice A_p0_1 p0.Places.length c_p0_1], .int .i64 p1, .slice A495 1 1, .slice A502 xs504.length xs504.length]) rfl rfl (run_build (parts := [(0, .agg #[.int .i64 p0.Events, .slice A_p0_1 p0.Places.length c_p0_1]), (1, .int .i64 p1), (2, .slice A495 1 1), (3, .slice A502 xs504.length xs504.length)]) (cells := [.int .i64 p0.Events, .slice A_p0_1 p0.Places.length c_p0_1, .int .i64 p1, .slice A495 1 1, .slice A502 xs504.length xs504.length]) (places := #[(0, 2), (2, 1), (3, 1), (4, 1)]) ti151 Try.underlying151 (fun w => by simp [go_sem]) rfl)) ?_; clear hf; intro a hf
                      refine mRun (i := 9) rfl (by kernel_rfl) ?_
                      refine sStore (i := 3) (us := [.int .i64 p0.Events, .slice A_p0_1 p0.Places.length c_p0_1, .int .i64 p1, .slice A495 1 1, .slice A502 xs504.length xs504.length]) hf hs rfl rfl rfl rfl rfl rfl ti151 rfl rfl rfl (Nat.le_of_ble_eq_true rfl) rfl ?_; clear hs; intro w hs
                      have hs : St [] W w [.blk b1 30 [.int .i64 p0.Events, .slice A_p0_1 p0.Places.length c_p0_1], .blk b419 120 [.int .i64 q417.From, .int .i64 q417.To, .int .i64 q417.Delay, .int .i64 q417.Tokens], .row A495 1 1 2 1 (ints ([x275])), .blk b501 151 [.int .i64 p0.Events, .slice A_p0_1 p0.Places.length c_p0_1, .int .i64 p1, .slice A495 1 1, .slice A502 xs504.length xs504.length], .row A502 xs504.length xs504.length 4 1 (bools xs504)] := hs
                      refine wpO_nil ⟨Or.inl (by decide), ?_⟩
                      refine mDone (by kernel_rfl) ?_
                      clear hs0
                      refine wpL_nil (then_normal ?_)
                      exact ⟨p0.Events, p0.Places, p1, [x275], xs504, b501, A_p0_1, p0.Places.length, c_p0_1, A495, 1, 1, A502, xs504.length, xs504.length, Option.some.inj hj488, rfl, h_p0_1, rfl, rfl, (Fr.pick (Fr.pick (Fr.pick (Fr.pick (Fr.pick (Fr.pick (Fr.pick (Fr.pick hf.none hf rfl) hf rfl) hf rfl) hf rfl) hf rfl) hf rfl) hf rfl) hf rfl), hs.sel [0, 1, 3, 2, 4] (by decide)⟩
                  · obtain ⟨xs507, hk506, hj488⟩ := bind_some hj488
                    refine sMakeL (enc := bools) hf hs rfl rfl rfl rfl rfl hk506 el144 ti4 rfl bools_made ?_; clear hf hs; intro a w A505 hs hf
                    have hs : St [] W w [.blk b1 30 [.int .i64 p0.Events, .slice A_p0_1 p0.Places.length c_p0_1], .blk b419 120 [.int .i64 q417.From, .int .i64 q417.To, .int .i64 q417.Delay, .int .i64 q417.Tokens], .row A505 xs507.length xs507.length 4 1 (bools xs507)] := hs
                    have hs0 : St [] W w [.blk b1 30 [.int .i64 p0.Events, .slice A_p0_1 p0.Places.length c_p0_1], .blk b419 120 [.int .i64 q417.From, .int .i64 q417.To, .int .i64 q417.Delay, .int .i64 q417.Tokens]] := hs.sel [0, 1] (by decide)
                    refine wpO_nil ⟨Or.inr (fun _ => hs0), ?_⟩
                    refine mRun2 (i := 3) (j := 8) rfl rfl (by kernel_rfl) ?_ ?_
                    · refine sBuildSlice (parts := [(0, .tmp 47)]) (vs := [.int .i64 x275]) (cells := [.int .i64 x275]) hf hs rfl rfl rfl rfl rfl el36 ti2 rfl rfl rfl rfl ?_; clear hf hs; intro a w A508 hs hA509 hf
                      have hs : St [] W w [.blk b1 30 [.int .i64 p0.Events, .slice A_p0_1 p0.Places.length c_p0_1], .blk b419 120 [.int .i64 q417.From, .int .i64 q417.To, .int .i64 q417.Delay, .int .i64 q417.Tokens], .row A505 xs507.length xs507.length 4 1 (bools xs507), .row A508 1 1 2 1 (ints ([x275]))] := hs
                      have hs0 : St [] W w [.blk b1 30 [.int .i64 p0.Events, .slice A_p0_1 p0.Places.length c_p0_1], .blk b419 120 [.int .i64 q417.From, .int .i64 q417.To, .int .i64 q417.Delay, .int .i64 q417.Tokens]] := hs.sel [0, 1] (by decide)
                      refine wpO_nil ⟨Or.inr (fun _ => hs0), ?_⟩
                      refine mYp (i := 7) rfl (by kernel_rfl) (by kernel_rfl) hf rfl rfl rfl (fun _ => Y_build (parts := [(0, .tmp 45), (1, .tmp 46), (2, .tmp 48), (3, .tmp 51)]) (vs := [.agg #[.int .i64 p0.Events, .slice A_p0_1 p0.Places.length c_p0_1], .int .i64 p1, .slice A508 1 1, .slice A505 xs507.length xs507.length]) rfl rfl (run_build (parts := [(0, .agg #[.int .i64 p0.Events, .slice A_p0_1 p0.Places.length c_p0_1]), (1, .int .i64 p1), (2, .slice A508 1 1), (3, .slice A505 xs507.length xs507.length)]) (cells := [.int .i64 p0.Events, .slice A_p0_1 p0.Places.length c_p0_1, .int .i64 p1, .slice A508 1 1, .slice A505 xs507.length xs507.length]) (places := #[(0, 2), (2, 1), (3, 1), (4, 1)]) ti151 Try.underlying151 (fun w => by simp [go_sem]) rfl)) ?_; clear hf; intro a hf
                      refine mRun (i := 8) rfl (by kernel_rfl) ?_
                      refine sAlloc hf hs rfl rfl rfl rfl ti151 ?_; clear hf hs; intro a w b510 hs hf
                      have hs : St [] W w [.blk b1 30 [.int .i64 p0.Events, .slice A_p0_1 p0.Places.length c_p0_1], .blk b419 120 [.int .i64 q417.From, .int .i64 q417.To, .int .i64 q417.Delay, .int .i64 q417.Tokens], .row A505 xs507.length xs507.length 4 1 (bools xs507), .row A508 1 1 2 1 (ints ([x275])), .blk b510 151 [.int .i64 0, .slice none 0 0, .int .i64 0, .slice none 0 0, .slice none 0 0]] := hs
                      have hs0 : St [] W w [.blk b1 30 [.int .i64 p0.Events, .slice A_p0_1 p0.Places.length c_p0_1], .blk b419 120 [.int .i64 q417.From, .int .i64 q417.To, .int .i64 q417.Delay, .int .i64 q417.Tokens]] := hs.sel [0, 1] (by decide)
                      refine wpO_nil ⟨Or.inr (fun _ => hs0), ?_⟩
                      refine mRun (i := 9) rfl (by kernel_rfl) ?_
                      refine sStore (i := 4) (us := [.int .i64 p0.Events, .slice A_p0_1 p0.Places.length c_p0_1, .int .i64 p1, .slice A508 1 1, .slice A505 xs507.length xs507.length]) hf hs rfl rfl rfl rfl rfl rfl ti151 rfl rfl rfl (Nat.le_of_ble_eq_true rfl) rfl ?_; clear hs; intro w hs
                      have hs : St [] W w [.blk b1 30 [.int .i64 p0.Events, .slice A_p0_1 p0.Places.length c_p0_1], .blk b419 120 [.int .i64 q417.From, .int .i64 q417.To, .int .i64 q417.Delay, .int .i64 q417.Tokens], .row A505 xs507.length xs507.length 4 1 (bools xs507), .row A508 1 1 2 1 (ints ([x275])), .blk b510 151 [.int .i64 p0.Events, .slice A_p0_1 p0.Places.length c_p0_1, .int .i64 p1, .slice A508 1 1, .slice A505 xs507.length xs507.length]] := hs
                      refine wpO_nil ⟨Or.inl (by decide), ?_⟩
                      refine mDone (by kernel_rfl) ?_
                      clear hs0
                      refine wpL_nil (then_normal ?_)
                      exact ⟨p0.Events, p0.Places, p1, [x275], xs507, b510, A_p0_1, p0.Places.length, c_p0_1, A508, 1, 1, A505, xs507.length, xs507.length, Option.some.inj hj488, rfl, h_p0_1, rfl, rfl, (Fr.pick (Fr.pick (Fr.pick (Fr.pick (Fr.pick (Fr.pick (Fr.pick (Fr.pick hf.none hf rfl) hf rfl) hf rfl) hf rfl) hf rfl) hf rfl) hf rfl) hf rfl), hs.sel [0, 1, 4, 3, 2] (by decide)⟩
                    · refine sAlloc hf hs rfl rfl rfl rfl ti151 ?_; clear hf hs; intro a w b511 hs hf
                      have hs : St [] W w [.blk b1 30 [.int .i64 p0.Events, .slice A_p0_1 p0.Places.length c_p0_1], .blk b419 120 [.int .i64 q417.From, .int .i64 q417.To, .int .i64 q417.Delay, .int .i64 q417.Tokens], .row A505 xs507.length xs507.length 4 1 (bools xs507), .blk b511 151 [.int .i64 0, .slice none 0 0, .int .i64 0, .slice none 0 0, .slice none 0 0]] := hs
                      have hs0 : St [] W w [.blk b1 30 [.int .i64 p0.Events, .slice A_p0_1 p0.Places.length c_p0_1], .blk b419 120 [.int .i64 q417.From, .int .i64 q417.To, .int .i64 q417.Delay, .int .i64 q417.Tokens]] := hs.sel [0, 1] (by decide)
                      refine wpO_nil ⟨Or.inr (fun _ => hs0), ?_⟩
                      refine mRun (i := 3) rfl (by kernel_rfl) ?_
                      refine sBuildSlice (parts := [(0, .tmp 47)]) (vs := [.int .i64 x275]) (cells := [.int .i64 x275]) hf hs rfl rfl rfl rfl rfl el36 ti2 rfl rfl rfl rfl ?_; clear hf hs; intro a w A512 hs hA513 hf
                      have hs : St [] W w [.blk b1 30 [.int .i64 p0.Events, .slice A_p0_1 p0.Places.length c_p0_1], .blk b419 120 [.int .i64 q417.From, .int .i64 q417.To, .int .i64 q417.Delay, .int .i64 q417.Tokens], .row A505 xs507.length xs507.length 4 1 (bools xs507), .blk b511 151 [.int .i64 0, .slice none 0 0, .int .i64 0, .slice none 0 0, .slice none 0 0], .row A512 1 1 2 1 (ints ([x275]))] := hs
                      have hs0 : St [] W w [.blk b1 30 [.int .i64 p0.Events, .slice A_p0_1 p0.Places.length c_p0_1], .blk b419 120 [.int .i64 q417.From, .int .i64 q417.To, .int .i64 q417.Delay, .int .i64 q417.Tokens]] := hs.sel [0, 1] (by decide)
                      refine wpO_nil ⟨Or.inr (fun _ => hs0), ?_⟩
                      refine mYp (i := 7) rfl (by kernel_rfl) (by kernel_rfl) hf rfl rfl rfl (fun _ => Y_build (parts := [(0, .tmp 45), (1, .tmp 46), (2, .tmp 48), (3, .tmp 51)]) (vs := [.agg #[.int .i64 p0.Events, .slice A_p0_1 p0.Places.length c_p0_1], .int .i64 p1, .slice A512 1 1, .slice A505 xs507.length xs507.length]) rfl rfl (run_build (parts := [(0, .agg #[.int .i64 p0.Events, .slice A_p0_1 p0.Places.length c_p0_1]), (1, .int .i64 p1), (2, .slice A512 1 1), (3, .slice A505 xs507.length xs507.length)]) (cells := [.int .i64 p0.Events, .slice A_p0_1 p0.Places.length c_p0_1, .int .i64 p1, .slice A512 1 1, .slice A505 xs507.length xs507.length]) (places := #[(0, 2), (2, 1), (3, 1), (4, 1)]) ti151 Try.underlying151 (fun w => by simp [go_sem]) rfl)) ?_; clear hf; intro a hf
                      refine mRun (i := 9) rfl (by kernel_rfl) ?_
                      refine sStore (i := 3) (us := [.int .i64 p0.Events, .slice A_p0_1 p0.Places.length c_p0_1, .int .i64 p1, .slice A512 1 1, .slice A505 xs507.length xs507.length]) hf hs rfl rfl rfl rfl rfl rfl ti151 rfl rfl rfl (Nat.le_of_ble_eq_true rfl) rfl ?_; clear hs; intro w hs
                      have hs : St [] W w [.blk b1 30 [.int .i64 p0.Events, .slice A_p0_1 p0.Places.length c_p0_1], .blk b419 120 [.int .i64 q417.From, .int .i64 q417.To, .int .i64 q417.Delay, .int .i64 q417.Tokens], .row A505 xs507.length xs507.length 4 1 (bools xs507), .blk b511 151 [.int .i64 p0.Events, .slice A_p0_1 p0.Places.length c_p0_1, .int .i64 p1, .slice A512 1 1, .slice A505 xs507.length xs507.length], .row A512 1 1 2 1 (ints ([x275]))] := hs
                      refine wpO_nil ⟨Or.inl (by decide), ?_⟩
                      refine mDone (by kernel_rfl) ?_
                      clear hs0
                      refine wpL_nil (then_normal ?_)
                      exact ⟨p0.Events, p0.Places, p1, [x275], xs507, b511, A_p0_1, p0.Places.length, c_p0_1, A512, 1, 1, A505, xs507.length, xs507.length, Option.some.inj hj488, rfl, h_p0_1, rfl, rfl, (Fr.pick (Fr.pick (Fr.pick (Fr.pick (Fr.pick (Fr.pick (Fr.pick (Fr.pick hf.none hf rfl) hf rfl) hf rfl) hf rfl) hf rfl) hf rfl) hf rfl) hf rfl), hs.sel [0, 1, 3, 4, 2] (by decide)⟩
                  · refine sAlloc hf hs rfl rfl rfl rfl ti151 ?_; clear hf hs; intro a w b514 hs hf
                    have hs : St [] W w [.blk b1 30 [.int .i64 p0.Events, .slice A_p0_1 p0.Places.length c_p0_1], .blk b419 120 [.int .i64 q417.From, .int .i64 q417.To, .int .i64 q417.Delay, .int .i64 q417.Tokens], .blk b514 151 [.int .i64 0, .slice none 0 0, .int .i64 0, .slice none 0 0, .slice none 0 0]] := hs
                    have hs0 : St [] W w [.blk b1 30 [.int .i64 p0.Events, .slice A_p0_1 p0.Places.length c_p0_1], .blk b419 120 [.int .i64 q417.From, .int .i64 q417.To, .int .i64 q417.Delay, .int .i64 q417.Tokens]] := hs.sel [0, 1] (by decide)
                    refine wpO_nil ⟨Or.inr (fun _ => hs0), ?_⟩
                    refine mRun2 (i := 3) (j := 6) rfl rfl (by kernel_rfl) ?_ ?_
                    · refine sBuildSlice (parts := [(0, .tmp 47)]) (vs := [.int .i64 x275]) (cells := [.int .i64 x275]) hf hs rfl rfl rfl rfl rfl el36 ti2 rfl rfl rfl rfl ?_; clear hf hs; intro a w A515 hs hA516 hf
                      have hs : St [] W w [.blk b1 30 [.int .i64 p0.Events, .slice A_p0_1 p0.Places.length c_p0_1], .blk b419 120 [.int .i64 q417.From, .int .i64 q417.To, .int .i64 q417.Delay, .int .i64 q417.Tokens], .blk b514 151 [.int .i64 0, .slice none 0 0, .int .i64 0, .slice none 0 0, .slice none 0 0], .row A515 1 1 2 1 (ints ([x275]))] := hs
                      have hs0 : St [] W w [.blk b1 30 [.int .i64 p0.Events, .slice A_p0_1 p0.Places.length c_p0_1], .blk b419 120 [.int .i64 q417.From, .int .i64 q417.To, .int .i64 q417.Delay, .int .i64 q417.Tokens]] := hs.sel [0, 1] (by decide)
                      refine wpO_nil ⟨Or.inr (fun _ => hs0), ?_⟩
                      refine mRun (i := 6) rfl (by kernel_rfl) ?_
                      obtain ⟨xs519, hk518, hj488⟩ := bind_some hj488
                      refine sMakeL (enc := bools) hf hs rfl rfl rfl rfl rfl hk518 el144 ti4 rfl bools_made ?_; clear hf hs; intro a w A517 hs hf
                      have hs : St [] W w [.blk b1 30 [.int .i64 p0.Events, .slice A_p0_1 p0.Places.length c_p0_1], .blk b419 120 [.int .i64 q417.From, .int .i64 q417.To, .int .i64 q417.Delay, .int .i64 q417.Tokens], .blk b514 151 [.int .i64 0, .slice none 0 0, .int .i64 0, .slice none 0 0, .slice none 0 0], .row A515 1 1 2 1 (ints ([x275])), .row A517 xs519.length xs519.length 4 1 (bools xs519)] := hs
                      have hs0 : St [] W w [.blk b1 30 [.int .i64 p0.Events, .slice A_p0_1 p0.Places.length c_p0_1], .blk b419 120 [.int .i64 q417.From, .int .i64 q417.To, .int .i64 q417.Delay, .int .i64 q417.Tokens]] := hs.sel [0, 1] (by decide)
                      refine wpO_nil ⟨Or.inr (fun _ => hs0), ?_⟩
                      refine mYp (i := 7) rfl (by kernel_rfl) (by kernel_rfl) hf rfl rfl rfl (fun _ => Y_build (parts := [(0, .tmp 45), (1, .tmp 46), (2, .tmp 48), (3, .tmp 51)]) (vs := [.agg #[.int .i64 p0.Events, .slice A_p0_1 p0.Places.length c_p0_1], .int .i64 p1, .slice A515 1 1, .slice A517 xs519.length xs519.length]) rfl rfl (run_build (parts := [(0, .agg #[.int .i64 p0.Events, .slice A_p0_1 p0.Places.length c_p0_1]), (1, .int .i64 p1), (2, .slice A515 1 1), (3, .slice A517 xs519.length xs519.length)]) (cells := [.int .i64 p0.Events, .slice A_p0_1 p0.Places.length c_p0_1, .int .i64 p1, .slice A515 1 1, .slice A517 xs519.length xs519.length]) (places := #[(0, 2), (2, 1), (3, 1), (4, 1)]) ti151 Try.underlying151 (fun w => by simp [go_sem]) rfl)) ?_; clear hf; intro a hf
                      refine mRun (i := 9) rfl (by kernel_rfl) ?_
                      refine sStore (i := 2) (us := [.int .i64 p0.Events, .slice A_p0_1 p0.Places.length c_p0_1, .int .i64 p1, .slice A515 1 1, .slice A517 xs519.length xs519.length]) hf hs rfl rfl rfl rfl rfl rfl ti151 rfl rfl rfl (Nat.le_of_ble_eq_true rfl) rfl ?_; clear hs; intro w hs
                      have hs : St [] W w [.blk b1 30 [.int .i64 p0.Events, .slice A_p0_1 p0.Places.length c_p0_1], .blk b419 120 [.int .i64 q417.From, .int .i64 q417.To, .int .i64 q417.Delay, .int .i64 q417.Tokens], .blk b514 151 [.int .i64 p0.Events, .slice A_p0_1 p0.Places.length c_p0_1, .int .i64 p1, .slice A515 1 1, .slice A517 xs519.length xs519.length], .row A515 1 1 2 1 (ints ([x275])), .row A517 xs519.length xs519.length 4 1 (bools xs519)] := hs
                      refine wpO_nil ⟨Or.inl (by decide), ?_⟩
                      refine mDone (by kernel_rfl) ?_
                      clear hs0
                      refine wpL_nil (then_normal ?_)
                      exact ⟨p0.Events, p0.Places, p1, [x275], xs519, b514, A_p0_1, p0.Places.length, c_p0_1, A515, 1, 1, A517, xs519.length, xs519.length, Option.some.inj hj488, rfl, h_p0_1, rfl, rfl, (Fr.pick (Fr.pick (Fr.pick (Fr.pick (Fr.pick (Fr.pick (Fr.pick (Fr.pick hf.none hf rfl) hf rfl) hf rfl) hf rfl) hf rfl) hf rfl) hf rfl) hf rfl), hs⟩
                    · obtain ⟨xs522, hk521, hj488⟩ := bind_some hj488
                      refine sMakeL (enc := bools) hf hs rfl rfl rfl rfl rfl hk521 el144 ti4 rfl bools_made ?_; clear hf hs; intro a w A520 hs hf
                      have hs : St [] W w [.blk b1 30 [.int .i64 p0.Events, .slice A_p0_1 p0.Places.length c_p0_1], .blk b419 120 [.int .i64 q417.From, .int .i64 q417.To, .int .i64 q417.Delay, .int .i64 q417.Tokens], .blk b514 151 [.int .i64 0, .slice none 0 0, .int .i64 0, .slice none 0 0, .slice none 0 0], .row A520 xs522.length xs522.length 4 1 (bools xs522)] := hs
                      have hs0 : St [] W w [.blk b1 30 [.int .i64 p0.Events, .slice A_p0_1 p0.Places.length c_p0_1], .blk b419 120 [.int .i64 q417.From, .int .i64 q417.To, .int .i64 q417.Delay, .int .i64 q417.Tokens]] := hs.sel [0, 1] (by decide)
                      refine wpO_nil ⟨Or.inr (fun _ => hs0), ?_⟩
                      refine mRun (i := 3) rfl (by kernel_rfl) ?_
                      refine sBuildSlice (parts := [(0, .tmp 47)]) (vs := [.int .i64 x275]) (cells := [.int .i64 x275]) hf hs rfl rfl rfl rfl rfl el36 ti2 rfl rfl rfl rfl ?_; clear hf hs; intro a w A523 hs hA524 hf
                      have hs : St [] W w [.blk b1 30 [.int .i64 p0.Events, .slice A_p0_1 p0.Places.length c_p0_1], .blk b419 120 [.int .i64 q417.From, .int .i64 q417.To, .int .i64 q417.Delay, .int .i64 q417.Tokens], .blk b514 151 [.int .i64 0, .slice none 0 0, .int .i64 0, .slice none 0 0, .slice none 0 0], .row A520 xs522.length xs522.length 4 1 (bools xs522), .row A523 1 1 2 1 (ints ([x275]))] := hs
                      have hs0 : St [] W w [.blk b1 30 [.int .i64 p0.Events, .slice A_p0_1 p0.Places.length c_p0_1], .blk b419 120 [.int .i64 q417.From, .int .i64 q417.To, .int .i64 q417.Delay, .int .i64 q417.Tokens]] := hs.sel [0, 1] (by decide)
                      refine wpO_nil ⟨Or.inr (fun _ => hs0), ?_⟩
                      refine mYp (i := 7) rfl (by kernel_rfl) (by kernel_rfl) hf rfl rfl rfl (fun _ => Y_build (parts := [(0, .tmp 45), (1, .tmp 46), (2, .tmp 48), (3, .tmp 51)]) (vs := [.agg #[.int .i64 p0.Events, .slice A_p0_1 p0.Places.length c_p0_1], .int .i64 p1, .slice A523 1 1, .slice A520 xs522.length xs522.length]) rfl rfl (run_build (parts := [(0, .agg #[.int .i64 p0.Events, .slice A_p0_1 p0.Places.length c_p0_1]), (1, .int .i64 p1), (2, .slice A523 1 1), (3, .slice A520 xs522.length xs522.length)]) (cells := [.int .i64 p0.Events, .slice A_p0_1 p0.Places.length c_p0_1, .int .i64 p1, .slice A523 1 1, .slice A520 xs522.length xs522.length]) (places := #[(0, 2), (2, 1), (3, 1), (4, 1)]) ti151 Try.underlying151 (fun w => by simp [go_sem]) rfl)) ?_; clear hf; intro a hf
                      refine mRun (i := 9) rfl (by kernel_rfl) ?_
                      refine sStore (i := 2) (us := [.int .i64 p0.Events, .slice A_p0_1 p0.Places.length c_p0_1, .int .i64 p1, .slice A523 1 1, .slice A520 xs522.length xs522.length]) hf hs rfl rfl rfl rfl rfl rfl ti151 rfl rfl rfl (Nat.le_of_ble_eq_true rfl) rfl ?_; clear hs; intro w hs
                      have hs : St [] W w [.blk b1 30 [.int .i64 p0.Events, .slice A_p0_1 p0.Places.length c_p0_1], .blk b419 120 [.int .i64 q417.From, .int .i64 q417.To, .int .i64 q417.Delay, .int .i64 q417.Tokens], .blk b514 151 [.int .i64 p0.Events, .slice A_p0_1 p0.Places.length c_p0_1, .int .i64 p1, .slice A523 1 1, .slice A520 xs522.length xs522.length], .row A520 xs522.length xs522.length 4 1 (bools xs522), .row A523 1 1 2 1 (ints ([x275]))] := hs
                      refine wpO_nil ⟨Or.inl (by decide), ?_⟩
                      refine mDone (by kernel_rfl) ?_
                      clear hs0
                      refine wpL_nil (then_normal ?_)
                      exact ⟨p0.Events, p0.Places, p1, [x275], xs522, b514, A_p0_1, p0.Places.length, c_p0_1, A523, 1, 1, A520, xs522.length, xs522.length, Option.some.inj hj488, rfl, h_p0_1, rfl, rfl, (Fr.pick (Fr.pick (Fr.pick (Fr.pick (Fr.pick (Fr.pick (Fr.pick (Fr.pick hf.none hf rfl) hf rfl) hf rfl) hf rfl) hf rfl) hf rfl) hf rfl) hf rfl), hs.sel [0, 1, 2, 4, 3] (by decide)⟩
                · rintro a w ⟨x469, xs470, x476, xs477, xs482, b468, A471, n472, c473, A478, n479, c480, A483, n484, c485, hr_, hn475, hg474, hn481, hn486, hf, hs⟩
                  subst hr_
                  try dsimp only at hm414
                  refine wpL_seq ?_
                  refine wpL_drawM [.blk b1 30 [.int .i64 p0.Events, .slice A_p0_1 p0.Places.length c_p0_1], .blk b419 120 [.int .i64 q417.From, .int .i64 q417.To, .int .i64 q417.Delay, .int .i64 q417.Tokens], .blk b468 151 [.int .i64 x469, .slice A471 n472 c473, .int .i64 x476, .slice A478 n479 c480, .slice A483 n484 c485], .row A478 n479 c480 2 1 (ints xs477)] [11] (by kernel_rfl) hs ?_; clear hs; intro w hs
                  have hs0 : St [] W w [.blk b1 30 [.int .i64 p0.Events, .slice A_p0_1 p0.Places.length c_p0_1], .blk b419 120 [.int .i64 q417.From, .int .i64 q417.To, .int .i64 q417.Delay, .int .i64 q417.Tokens], .blk b468 151 [.int .i64 x469, .slice A471 n472 c473, .int .i64 x476, .slice A478 n479 c480, .slice A483 n484 c485], .row A478 n479 c480 2 1 (ints xs477)] := hs.sel [0, 1, 2, 3] (by decide)
                  refine mYp (i := 0) rfl (by kernel_rfl) (by kernel_rfl) hf rfl rfl rfl (fun _ => Y_fieldAddr rfl rfl fo151_3) ?_; clear hf; intro a hf
                  refine mY (i := 1) [[]] rfl (by kernel_rfl) (by kernel_rfl) hf hs0 rfl rfl rfl (Y_load_blk rfl rfl (i := 2) rfl rfl ag144) ?_; clear hf; intro a hf
                  refine mYp (i := 2) rfl (by kernel_rfl) (by kernel_rfl) hf rfl rfl rfl (fun _ => Y_fieldAddr rfl rfl fo120_0) ?_; clear hf; intro a hf
                  refine mY (i := 3) [[]] rfl (by kernel_rfl) (by kernel_rfl) hf hs0 rfl rfl rfl (Y_load_blk rfl rfl (i := 1) rfl rfl ag2) ?_; clear hf; intro a hf
                  refine mYp (i := 4) rfl (by kernel_rfl) (by kernel_rfl) hf rfl rfl rfl (fun _ => Y_fieldAddr rfl rfl fo151_3) ?_; clear hf; intro a hf
                  refine mY (i := 5) [[]] rfl (by kernel_rfl) (by kernel_rfl) hf hs0 rfl rfl rfl (Y_load_blk rfl rfl (i := 2) rfl rfl ag144) ?_; clear hf; intro a hf
                  refine mYp (i := 6) rfl (by kernel_rfl) (by kernel_rfl) hf rfl rfl rfl (fun _ => Y_fieldAddr rfl rfl fo120_1) ?_; clear hf; intro a hf
                  refine mY (i := 7) [[]] rfl (by kernel_rfl) (by kernel_rfl) hf hs0 rfl rfl rfl (Y_load_blk rfl rfl (i := 1) rfl rfl ag2) ?_; clear hf; intro a hf
                  obtain ⟨q533, hi534, hm414⟩ := bind_some hm414
                  obtain ⟨hi534a, hi534b, hi534q⟩ := idx_some hi534
                  refine mYp (i := 8) rfl (by kernel_rfl) (by kernel_rfl) hf rfl rfl rfl (fun _ => Y_index rfl rfl rfl el144 ti4 (Rd.isAt (hs.rd (i := 4) rfl) (at1 (bools_at hi534q))) hi534a (ltn hn486 hi534b)) ?_; clear hf; intro a hf
                  refine mRun (i := 9) rfl (by kernel_rfl) ?_
                  obtain ⟨xs535, hu536, hm414⟩ := bind_some hm414
                  refine sStoreL (i := 4) (us := [.bool true]) (enc := bools) hf hs rfl rfl rfl rfl rfl rfl hn486 hu536 ti4 rfl rfl rfl rfl rfl bools_len1 (bools_set true) ?_; clear hs; intro w hs
                  have hs : St [] W w [.blk b1 30 [.int .i64 p0.Events, .slice A_p0_1 p0.Places.length c_p0_1], .blk b419 120 [.int .i64 q417.From, .int .i64 q417.To, .int .i64 q417.Delay, .int .i64 q417.Tokens], .blk b468 151 [.int .i64 x469, .slice A471 n472 c473, .int .i64 x476, .slice A478 n479 c480, .slice A483 n484 c485], .row A478 n479 c480 2 1 (ints xs477), .row A483 n484 c485 4 1 (bools xs535)] := hs
                  have hs0 : St [] W w [.blk b1 30 [.int .i64 p0.Events, .slice A_p0_1 p0.Places.length c_p0_1], .blk b419 120 [.int .i64 q417.From, .int .i64 q417.To, .int .i64 q417.Delay, .int .i64 q417.Tokens], .blk b468 151 [.int .i64 x469, .slice A471 n472 c473, .int .i64 x476, .slice A478 n479 c480, .slice A483 n484 c485], .row A478 n479 c480 2 1 (ints xs477)] := hs.sel [0, 1, 2, 3] (by decide)
                  refine wpO_nil ⟨Or.inr (fun _ => hs0), ?_⟩
                  obtain ⟨q537, hi538, hm414⟩ := bind_some hm414
                  obtain ⟨hi538a, hi538b, hi538q⟩ := idx_some hi538
                  refine mYp (i := 10) rfl (by kernel_rfl) (by kernel_rfl) hf rfl rfl rfl (fun _ => Y_index rfl rfl rfl el144 ti4 (Rd.isAt (hs.rd (i := 4) rfl) (at1 (bools_at hi538q))) hi538a (ltn ((hn486).trans (upd_len hu536).symm) hi538b)) ?_; clear hf; intro a hf
                  refine mRun (i := 11) rfl (by kernel_rfl) ?_
                  obtain ⟨xs539, hu540, hm414⟩ := bind_some hm414
                  refine sStoreL (i := 4) (us := [.bool true]) (enc := bools) hf hs rfl rfl rfl rfl rfl rfl ((hn486).trans (upd_len hu536).symm) hu540 ti4 rfl rfl rfl rfl rfl bools_len1 (bools_set true) ?_; clear hs; intro w hs
                  have hs : St [] W w [.blk b1 30 [.int .i64 p0.Events, .slice A_p0_1 p0.Places.length c_p0_1], .blk b419 120 [.int .i64 q417.From, .int .i64 q417.To, .int .i64 q417.Delay, .int .i64 q417.Tokens], .blk b468 151 [.int .i64 x469, .slice A471 n472 c473, .int .i64 x476, .slice A478 n479 c480, .slice A483 n484 c485], .row A478 n479 c480 2 1 (ints xs477), .row A483 n484 c485 4 1 (bools xs539)] := hs
                  refine wpO_nil ⟨Or.inl (by decide), ?_⟩
                  refine mDone (by kernel_rfl) ?_
                  clear hs0
                  refine wpL_seq ?_
                  refine wpL_region ?_
                  refine sY hf hs rfl rfl rfl (Y_fieldAddr rfl rfl fo120_0) ?_; clear hf; intro a hf
                  refine sY hf hs rfl rfl rfl (Y_load_blk rfl rfl (i := 1) rfl rfl ag2) ?_; clear hf; intro a hf
                  refine sY hf hs rfl rfl rfl (Y_fieldAddr rfl rfl fo120_1) ?_; clear hf; intro a hf
                  refine sY hf hs rfl rfl rfl (Y_load_blk rfl rfl (i := 1) rfl rfl ag2) ?_; clear hf; intro a hf
                  refine sY hf hs rfl rfl rfl (Y_move rfl rfl) ?_; clear hf; intro a hf
                  obtain ⟨r541, hc542, hm414⟩ := bind_some hm414
                  refine sCall hf rfl rfl rfl rfl (cap := []) rfl rfl en139 (impl_conflictSearch_goOn_ok F b468 x469 xs470 A471 n472 c473 hn475 x476 xs477 A478 n479 c480 hn481 xs539 A483 n484 c485 ((((hn486).trans (upd_len hu536).symm)).trans (upd_len hu540).symm) q417.From q417.To r420 _ _ hc542 (hg474.pass hs [2, 3, 4]) (hs.sel [2, 3, 4] (by decide)).rebase) ?_; clear hf
                  rintro _ w ⟨A543, n544, c545, A547, n548, c549, rfl, hn546, hn550, hs1⟩ a hf
                  have hs : St [] W w [.blk b1 30 [.int .i64 p0.Events, .slice A_p0_1 p0.Places.length c_p0_1], .blk b419 120 [.int .i64 q417.From, .int .i64 q417.To, .int .i64 q417.Delay, .int .i64 q417.Tokens], .blk b468 151 [.int .i64 r541.2.1, .slice A471 n472 c473, .int .i64 r541.2.2.1, .slice A543 n544 c545, .slice A547 n548 c549], .row A543 n544 c545 2 1 (ints r541.2.2.2.1), .row A547 n548 c549 4 1 (bools r541.2.2.2.2)] := St.mutTail (La := [.blk b1 30 [.int .i64 p0.Events, .slice A_p0_1 p0.Places.length c_p0_1], .blk b419 120 [.int .i64 q417.From, .int .i64 q417.To, .int .i64 q417.Delay, .int .i64 q417.Tokens]]) (Lb := [.blk b468 151 [.int .i64 x469, .slice A471 n472 c473, .int .i64 x476, .slice A478 n479 c480, .slice A483 n484 c485], .row A478 n479 c480 2 1 (ints xs477), .row A483 n484 c485 4 1 (bools xs539)]) (hs.sel [0, 1, 2, 3, 4] (by decide)) hs1
                  clear hs1
                  refine wpO_nil ?_
                  refine wpL_cond hf rfl (fun hb551 => ?_) (fun hb551 => ?_)
                  · have hm414 := bif_t hm414 hb551
                    refine wpL_seq ?_
                    refine wpL_region ?_
                    refine sY hf hs rfl rfl rfl (Y_fieldAddr rfl rfl fo151_2) ?_; clear hf; intro a hf
                    refine sY hf hs rfl rfl rfl (Y_load_blk rfl rfl (i := 2) rfl rfl ag36) ?_; clear hf; intro a hf
                    refine sY hf hs rfl rfl rfl (Y_assign rfl rfl) ?_; clear hf; intro a hf
                    refine wpO_nil ?_
                    obtain rfl := Option.some.inj hm414
                    try dsimp only at hm
                    obtain rfl := Option.some.inj hm
                    refine wpL_ret (Qb_ret (Qb_ret (Ql_ret (Qb_ret (ret_tmp rfl hf rfl ?_)))))
                    exact ⟨_, rfl, A543, n544, c545, rfl, hn546, hs.sel [3] (by decide)⟩
                  · have hm414 := bif_f hm414 hb551
                    refine wpL_skip ?_
                    refine wpL_nil (Qb_normal ?_)
                    refine wpL_nil (Qb_normal ?_)
                    refine wpL_region ?_
                    refine sY hf hs rfl rfl rfl (Y_add rfl rfl rfl) ?_; clear hf; intro a hf
                    refine sY hf hs rfl rfl rfl (Y_move rfl rfl) ?_; clear hf; intro a hf
                    refine wpO_nil ?_
                    refine wpL_nil (Ql_normal ?_)
                    exact ⟨(IntKind.i64.wrap (x275 + 1)), hm414, (Fr.pick (Fr.pick (Fr.pick (Fr.pick (Fr.pick hf.none hf rfl) hf rfl) hf rfl) hf rfl) hf rfl), hs.sel [0] (by decide)⟩
              · have hm414 := bif_f hm414 hb431
                refine wpL_skip ?_
                refine wpL_nil (Qb_normal ?_)
                refine wpL_nil (Qb_normal ?_)
                refine wpL_region ?_
                refine sY hf hs rfl rfl rfl (Y_add rfl rfl rfl) ?_; clear hf; intro a hf
                refine sY hf hs rfl rfl rfl (Y_move rfl rfl) ?_; clear hf; intro a hf
                refine wpO_nil ?_
                refine wpL_nil (Ql_normal ?_)
                exact ⟨(IntKind.i64.wrap (x275 + 1)), hm414, (Fr.pick (Fr.pick (Fr.pick (Fr.pick (Fr.pick hf.none hf rfl) hf rfl) hf rfl) hf rfl) hf rfl), hs.sel [0] (by decide)⟩
      · have hm414 := bif_f hm414 hb416
        refine wpL_exit (Ql_exit (Qb_exit ?_))
        exact ⟨Option.some.inj hm414, hf.none, hs.sel [] (by decide)⟩
  · rintro a w ⟨hr_, hf, hs⟩
    subst hr_
    try dsimp only at hm
    refine wpL_seq ?_
    refine wpL_region ?_
    refine sY hf hs rfl rfl rfl (Y_assign rfl rfl) ?_; clear hf; intro a hf
    refine wpO_nil ?_
    have hs : St [] W _ [.row none 0 0 2 1 (ints ([] : List Int))] := hs.addNil 2 1
    obtain rfl := Option.some.inj hm
    refine wpL_ret (ret_tmp rfl hf rfl ?_)
    exact ⟨_, rfl, none, 0, 0, rfl, rfl, hs⟩

set_option maxRecDepth 100000 in
theorem impl_ConflictCircuit_ok (F : Nat) (p0_g : GEventGraph) (A_p0_g_1 : Option Addr) (n_p0_g_1 c_p0_g_1 : Nat) (hn_p0_g_1 : n_p0_g_1 = p0_g.Places.length) (p1_period : Int) (r : List Int × Int) (W : World) (hm : impl_ConflictCircuit F p0_g p1_period = some r) (h_p0_g_1 : Rd W A_p0_g_1 ((recs GPlace.cells) p0_g.Places)) :
    Calls Try.prog 34 [.agg #[.int .i64 p0_g.Events, .slice A_p0_g_1 n_p0_g_1 c_p0_g_1], .int .i64 p1_period].toArray W fun e w' => ∃ v, e = .returned v ∧ ∃ A21, ∃ n22, ∃ c23, v = .tuple #[.slice A21 n22 c23, .int .i64 r.2] ∧ n22 = r.1.length ∧ St [] W w' [.row A21 n22 c23 2 1 (ints r.1)] := by
  subst hn_p0_g_1
  unfold impl_ConflictCircuit at hm
  refine Calls.enter (N := 21) Try.func34 rfl rfl rfl (fun a hf => ?_)
  have hs := St.start W
  obtain ⟨w, hw_⟩ : ∃ w, w = W := ⟨W, rfl⟩
  clear hw_ w
  refine wpL_seq ?_
  refine wpL_region ?_
  refine sBox hf hs rfl rfl rfl rfl rfl (cs := [.int .i64 p0_g.Events, .slice A_p0_g_1 p0_g.Places.length c_p0_g_1]) rfl ?_; clear hf hs; intro a w b1 hs hf
  have hs : St [] W w [.blk b1 30 [.int .i64 p0_g.Events, .slice A_p0_g_1 p0_g.Places.length c_p0_g_1]] := hs
  refine sY hf hs rfl rfl rfl (Y_assign rfl rfl) ?_; clear hf; intro a hf
  refine sY hf hs rfl rfl rfl (Y_assign rfl rfl) ?_; clear hf; intro a hf
  refine wpO_nil ?_
  refine wpL_seq ?_
  refine wpL_seq ?_
  refine wpL_region ?_
  refine sY hf hs rfl rfl rfl (Y_load_blkS rfl rfl (i := 0) rfl ag30 ti30 rfl) ?_; clear hf; intro a hf
  refine sY hf hs rfl rfl rfl (Y_move rfl rfl) ?_; clear hf; intro a hf
  obtain ⟨r2, hc3, hm⟩ := bind_some hm
  refine sCall hf rfl rfl rfl rfl (cap := []) rfl rfl en91 (impl_checkPeriod_ok F p0_g A_p0_g_1 p0_g.Places.length c_p0_g_1 rfl p1_period _ _ hc3 (h_p0_g_1.at hs)) ?_; clear hf
  rintro _ w ⟨rfl, hs1⟩ a hf
  have hs : St [] W w [.blk b1 30 [.int .i64 p0_g.Events, .slice A_p0_g_1 p0_g.Places.length c_p0_g_1]] := hs.ext hs1.below
  clear hs1
  refine sY hf hs rfl rfl rfl (Y_assign rfl rfl) ?_; clear hf; intro a hf
  refine wpO_nil ?_
  refine wpL_seq ?_
  refine wpL_region ?_
  refine sY hf hs rfl rfl rfl (Y_move rfl rfl) ?_; clear hf; intro a hf
  refine sY hf hs rfl rfl rfl (Y_neq rfl rfl rfl) ?_; clear hf; intro a hf
  refine wpO_nil ?_
  refine wpL_cond hf rfl (fun hb4 => ?_) (fun hb4 => ?_)
  · have hm := bif_t hm hb4
    refine wpL_seq ?_
    refine wpL_region ?_
    refine sY hf hs rfl rfl rfl (Y_move rfl rfl) ?_; clear hf; intro a hf
    refine sY hf hs rfl rfl rfl (Y_assign rfl rfl) ?_; clear hf; intro a hf
    refine sY hf hs rfl rfl rfl (Y_assign rfl rfl) ?_; clear hf; intro a hf
    refine wpO_nil ?_
    have hs : St [] W _ [.blk b1 30 [.int .i64 p0_g.Events, .slice A_p0_g_1 p0_g.Places.length c_p0_g_1], .row none 0 0 2 1 (ints ([] : List Int))] := hs.addNil 2 1
    obtain rfl := Option.some.inj hm
    refine wpL_ret (ret_tmp2 rfl hf rfl rfl ?_)
    exact ⟨_, rfl, none, 0, 0, rfl, rfl, hs.sel [1] (by decide)⟩
  · have hm := bif_f hm hb4
    refine wpL_skip ?_
    refine wpL_seq ?_
    refine wpL_seq ?_
    refine wpL_region ?_
    refine sY hf hs rfl rfl rfl (Y_load_blkS rfl rfl (i := 0) rfl ag30 ti30 rfl) ?_; clear hf; intro a hf
    refine sY hf hs rfl rfl rfl (Y_move rfl rfl) ?_; clear hf; intro a hf
    refine sY hf hs rfl rfl rfl (Y_build (parts := [(0, .tmp 14), (1, .const (.int .i64 1))]) (vs := [.int .i64 p1_period, .int .i64 1]) rfl rfl (run_build (parts := [(0, .int .i64 p1_period), (1, .int .i64 1)]) (cells := [.int .i64 p1_period, .int .i64 1]) (places := #[(0, 1), (1, 1)]) ti84 Try.underlying84 (fun w => by simp [go_sem]) rfl)) ?_; clear hf; intro a hf
    obtain ⟨r6, hc7, hm⟩ := bind_some hm
    refine sCall hf rfl rfl rfl rfl (cap := []) rfl rfl en77 (impl_betterCircuit_ok F p0_g A_p0_g_1 p0_g.Places.length c_p0_g_1 rfl (GRatio.mk p1_period 1) _ _ hc7 (h_p0_g_1.at hs)) ?_; clear hf
    rintro _ w ⟨A8, n9, c10, rfl, hn11, hz12, hs1⟩ a hf
    have hs : St [] W w [.blk b1 30 [.int .i64 p0_g.Events, .slice A_p0_g_1 p0_g.Places.length c_p0_g_1], .row A8 n9 c10 2 1 (ints r6)] := hs.join hs1
    clear hs1
    refine sY hf hs rfl rfl rfl (Y_eqnilO rfl rfl rfl un36 (hs.nilInts (i := 1) rfl hn11 hz12)) ?_; clear hf; intro a hf
    refine wpO_nil ?_
    refine wpL_cond hf rfl (fun hb13 => ?_) (fun hb13 => ?_)
    · have hm := bif_t hm hb13
      refine wpL_seq ?_
      refine wpL_region ?_
      refine sY hf hs rfl rfl rfl (Y_assign rfl rfl) ?_; clear hf; intro a hf
      refine sY hf hs rfl rfl rfl (Y_assign rfl rfl) ?_; clear hf; intro a hf
      refine wpO_nil ?_
      have hs : St [] W _ [.blk b1 30 [.int .i64 p0_g.Events, .slice A_p0_g_1 p0_g.Places.length c_p0_g_1], .row A8 n9 c10 2 1 (ints r6), .row none 0 0 2 1 (ints ([] : List Int))] := hs.addNil 2 1
      obtain rfl := Option.some.inj hm
      refine wpL_ret (ret_tmp2 rfl hf rfl rfl ?_)
      exact ⟨_, rfl, none, 0, 0, rfl, rfl, hs.sel [2] (by decide)⟩
    · have hm := bif_f hm hb13
      refine wpL_skip ?_
      refine wpL_seq ?_
      refine wpL_region ?_
      refine sY hf hs rfl rfl rfl (Y_load_blkS rfl rfl (i := 0) rfl ag30 ti30 rfl) ?_; clear hf; intro a hf
      refine sY hf hs rfl rfl rfl (Y_move rfl rfl) ?_; clear hf; intro a hf
      obtain ⟨r15, hc16, hm⟩ := bind_some hm
      refine sCall hf rfl rfl rfl rfl (cap := []) rfl rfl en92 (impl_firstConflict_ok F p0_g A_p0_g_1 p0_g.Places.length c_p0_g_1 rfl p1_period _ _ hc16 (h_p0_g_1.at hs)) ?_; clear hf
      rintro _ w ⟨A17, n18, c19, rfl, hn20, hs1⟩ a hf
      have hs : St [] W w [.blk b1 30 [.int .i64 p0_g.Events, .slice A_p0_g_1 p0_g.Places.length c_p0_g_1], .row A8 n9 c10 2 1 (ints r6), .row A17 n18 c19 2 1 (ints r15)] := hs.join hs1
      clear hs1
      refine sY hf hs rfl rfl rfl (Y_assign rfl rfl) ?_; clear hf; intro a hf
      refine sY hf hs rfl rfl rfl (Y_assign rfl rfl) ?_; clear hf; intro a hf
      refine wpO_nil ?_
      obtain rfl := Option.some.inj hm
      refine wpL_ret (ret_tmp2 rfl hf rfl rfl ?_)
      exact ⟨_, rfl, A17, n18, c19, rfl, hn20, hs.sel [2] (by decide)⟩

set_option maxRecDepth 100000 in
theorem laws_eqInt64S_ok (F : Nat) (p0_a : List Int) (A_p0_a_1 : Option Addr) (n_p0_a_1 c_p0_a_1 : Nat) (hn_p0_a_1 : n_p0_a_1 = p0_a.length) (p1_b : List Int) (A_p1_b_1 : Option Addr) (n_p1_b_1 c_p1_b_1 : Nat) (hn_p1_b_1 : n_p1_b_1 = p1_b.length) (r : Bool) (W : World) (hm : laws_eqInt64S F p0_a p1_b = some r) (h_p0_a_1 : Rd W A_p0_a_1 (ints p0_a)) (h_p1_b_1 : Rd W A_p1_b_1 (ints p1_b)) :
    Calls Try.prog 25 [.slice A_p0_a_1 n_p0_a_1 c_p0_a_1, .slice A_p1_b_1 n_p1_b_1 c_p1_b_1].toArray W fun e w' => ∃ v, e = .returned v ∧ v = .bool r ∧ St [] W w' [] := by
  subst hn_p0_a_1
  subst hn_p1_b_1
  unfold laws_eqInt64S at hm
  refine Calls.enter (N := 26) Try.func25 rfl rfl rfl (fun a hf => ?_)
  have hs := St.start W
  obtain ⟨w, hw_⟩ : ∃ w, w = W := ⟨W, rfl⟩
  clear hw_ w
  refine wpL_seq ?_
  refine wpL_region ?_
  refine sY hf hs rfl rfl rfl (Y_assign rfl rfl) ?_; clear hf; intro a hf
  refine wpO_nil ?_
  refine wpL_seq ?_
  refine wpL_seq ?_
  refine wpL_region ?_
  refine sY hf hs rfl rfl rfl (Y_move rfl rfl) ?_; clear hf; intro a hf
  refine sY hf hs rfl rfl rfl (Y_lenH rfl rfl el36 rfl) ?_; clear hf; intro a hf
  refine sY hf hs rfl rfl rfl (Y_move rfl rfl) ?_; clear hf; intro a hf
  refine sY hf hs rfl rfl rfl (Y_lenH rfl rfl el36 rfl) ?_; clear hf; intro a hf
  refine sY hf hs rfl rfl rfl (Y_neq rfl rfl rfl) ?_; clear hf; intro a hf
  refine wpO_nil ?_
  refine wpL_cond hf rfl (fun hb1 => ?_) (fun hb1 => ?_)
  · have hm := bif_t hm hb1
    refine wpL_seq ?_
    refine wpL_region ?_
    refine sY hf hs rfl rfl rfl (Y_assign rfl rfl) ?_; clear hf; intro a hf
    refine wpO_nil ?_
    obtain rfl := Option.some.inj hm
    refine wpL_ret (ret_tmp rfl hf rfl ?_)
    exact ⟨_, rfl, rfl, hs⟩
  · have hm := bif_f hm hb1
    refine wpL_skip ?_
    refine wpL_seq ?_
    refine wpL_seq ?_
    refine wpL_region ?_
    refine sY hf hs rfl rfl rfl (Y_assign rfl rfl) ?_; clear hf; intro a hf
    refine wpO_nil ?_
    obtain ⟨r22, hl23, hm⟩ := bind_some hm
    refine wpL_block (fun a w => Sum.inr () = r22 ∧ Fr a 26 [] ∧ St [] W w []) ?_ ?_
    · refine wpL_loop (fun n a w => ∃ x15 : Int, laws_eqInt64S_L1 F p0_a p1_b n x15 = some r22 ∧ Fr a 26 [(0, .slice A_p0_a_1 p0_a.length c_p0_a_1), (1, .slice A_p1_b_1 p1_b.length c_p1_b_1), (5, .int .i64 x15)] ∧ St [] W w []) F ?_ ?_ ?_
      · exact ⟨0, hl23, (Fr.pick (Fr.pick (Fr.pick hf.none hf rfl) hf rfl) hf rfl), hs⟩
      · rintro a w ⟨x15, h0_, -, -⟩; simp [laws_eqInt64S_L1] at h0_
      · rintro n25 a w ⟨x15, hm24, hf, hs⟩
        rw [laws_eqInt64S_L1] at hm24
        refine wpL_seq ?_
        refine wpL_seq ?_
        refine wpL_region ?_
        refine sY hf hs rfl rfl rfl (Y_move rfl rfl) ?_; clear hf; intro a hf
        refine sY hf hs rfl rfl rfl (Y_move rfl rfl) ?_; clear hf; intro a hf
        refine sY hf hs rfl rfl rfl (Y_lenH rfl rfl el36 rfl) ?_; clear hf; intro a hf
        refine sY hf hs rfl rfl rfl (Y_lss rfl rfl rfl) ?_; clear hf; intro a hf
        refine wpO_nil ?_
        refine wpL_cond hf rfl (fun hb26 => ?_) (fun hb26 => ?_)
        · have hm24 := bif_t hm24 hb26
          refine wpL_skip ?_
          refine wpL_seq ?_
          refine wpL_block0 ?_
          refine wpL_seq ?_
          refine wpL_draw (by kernel_rfl) (by kernel_rfl) hs ?_
          refine qY hf rfl rfl rfl (Y_move rfl rfl) ?_; clear hf; intro a hf
          refine qY hf rfl rfl rfl (Y_move rfl rfl) ?_; clear hf; intro a hf
          obtain ⟨q27, hi28, hm24⟩ := bind_some hm24
          obtain ⟨hi28a, hi28b, hi28q⟩ := idx_some hi28
          refine qY hf rfl rfl rfl (Y_index rfl rfl rfl el36 ti2 (Rd.isAt (h_p0_a_1.at hs) (at1 (ints_at hi28q))) hi28a hi28b) ?_; clear hf; intro a hf
          refine qY hf rfl rfl rfl (Y_load_rd rfl rfl (fun w hs => h_p0_a_1.at hs) (at1 (ints_at hi28q)) ag2) ?_; clear hf; intro a hf
          refine qY hf rfl rfl rfl (Y_move rfl rfl) ?_; clear hf; intro a hf
          refine qY hf rfl rfl rfl (Y_move rfl rfl) ?_; clear hf; intro a hf
          obtain ⟨q29, hi30, hm24⟩ := bind_some hm24
          obtain ⟨hi30a, hi30b, hi30q⟩ := idx_some hi30
          refine qY hf rfl rfl rfl (Y_index rfl rfl rfl el36 ti2 (Rd.isAt (h_p1_b_1.at hs) (at1 (ints_at hi30q))) hi30a hi30b) ?_; clear hf; intro a hf
          refine qY hf rfl rfl rfl (Y_load_rd rfl rfl (fun w hs => h_p1_b_1.at hs) (at1 (ints_at hi30q)) ag2) ?_; clear hf; intro a hf
          refine qY hf rfl rfl rfl (Y_neq rfl rfl rfl) ?_; clear hf; intro a hf
          refine qNil ?_; clear hs; intro w hs
          refine wpL_cond hf rfl (fun hb31 => ?_) (fun hb31 => ?_)
          · have hm24 := bif_t hm24 hb31
            refine wpL_seq ?_
            refine wpL_region ?_
            refine sY hf hs rfl rfl rfl (Y_assign rfl rfl) ?_; clear hf; intro a hf
            refine wpO_nil ?_
            obtain rfl := Option.some.inj hm24
            try dsimp only at hm
            obtain rfl := Option.some.inj hm
            refine wpL_ret (Qb_ret (Ql_ret (Qb_ret (ret_tmp rfl hf rfl ?_))))
            exact ⟨_, rfl, rfl, hs⟩
          · have hm24 := bif_f hm24 hb31
            refine wpL_skip ?_
            refine wpL_nil (Qb_normal ?_)
            refine wpL_region ?_
            refine sY hf hs rfl rfl rfl (Y_move rfl rfl) ?_; clear hf; intro a hf
            refine sY hf hs rfl rfl rfl (Y_add rfl rfl rfl) ?_; clear hf; intro a hf
            refine sY hf hs rfl rfl rfl (Y_assign rfl rfl) ?_; clear hf; intro a hf
            refine wpO_nil ?_
            refine wpL_nil (Ql_normal ?_)
            exact ⟨(IntKind.i64.wrap (x15 + 1)), hm24, (Fr.pick (Fr.pick (Fr.pick hf.none hf rfl) hf rfl) hf rfl), hs⟩
        · have hm24 := bif_f hm24 hb26
          refine wpL_exit (Ql_exit (Qb_exit ?_))
          exact ⟨Option.some.inj hm24, hf.none, hs⟩
    · rintro a w ⟨hr_, hf, hs⟩
      subst hr_
      try dsimp only at hm
      refine wpL_seq ?_
      refine wpL_region ?_
      refine sY hf hs rfl rfl rfl (Y_assign rfl rfl) ?_; clear hf; intro a hf
      refine wpO_nil ?_
      obtain rfl := Option.some.inj hm
      refine wpL_ret (ret_tmp rfl hf rfl ?_)
      exact ⟨_, rfl, rfl, hs⟩

set_option maxRecDepth 100000 in
theorem laws_eqPlace_ok (F : Nat) (p0_a : GPlace) (p1_b : GPlace) (r : Bool) (W : World) (hm : laws_eqPlace F p0_a p1_b = some r) :
    Calls Try.prog 129 [.agg #[.int .i64 p0_a.From, .int .i64 p0_a.To, .int .i64 p0_a.Delay, .int .i64 p0_a.Tokens], .agg #[.int .i64 p1_b.From, .int .i64 p1_b.To, .int .i64 p1_b.Delay, .int .i64 p1_b.Tokens]].toArray W fun e w' => ∃ v, e = .returned v ∧ v = .bool r ∧ St [] W w' [] := by
  unfold laws_eqPlace at hm
  refine Calls.enter (N := 25) Try.func129 rfl rfl rfl (fun a hf => ?_)
  have hs := St.start W
  obtain ⟨w, hw_⟩ : ∃ w, w = W := ⟨W, rfl⟩
  clear hw_ w
  refine wpL_seq ?_
  refine wpL_region ?_
  refine sBox hf hs rfl rfl rfl rfl rfl (cs := [.int .i64 p0_a.From, .int .i64 p0_a.To, .int .i64 p0_a.Delay, .int .i64 p0_a.Tokens]) rfl ?_; clear hf hs; intro a w b1 hs hf
  have hs : St [] W w [.blk b1 120 [.int .i64 p0_a.From, .int .i64 p0_a.To, .int .i64 p0_a.Delay, .int .i64 p0_a.Tokens]] := hs
  refine sBox hf hs rfl rfl rfl rfl rfl (cs := [.int .i64 p1_b.From, .int .i64 p1_b.To, .int .i64 p1_b.Delay, .int .i64 p1_b.Tokens]) rfl ?_; clear hf hs; intro a w b2 hs hf
  have hs : St [] W w [.blk b1 120 [.int .i64 p0_a.From, .int .i64 p0_a.To, .int .i64 p0_a.Delay, .int .i64 p0_a.Tokens], .blk b2 120 [.int .i64 p1_b.From, .int .i64 p1_b.To, .int .i64 p1_b.Delay, .int .i64 p1_b.Tokens]] := hs
  refine sY hf hs rfl rfl rfl (Y_assign rfl rfl) ?_; clear hf; intro a hf
  refine wpO_nil ?_
  refine wpL_seq ?_
  refine wpL_seq ?_
  refine wpL_region ?_
  refine sY hf hs rfl rfl rfl (Y_fieldAddr rfl rfl fo120_0) ?_; clear hf; intro a hf
  refine sY hf hs rfl rfl rfl (Y_load_blk rfl rfl (i := 0) rfl rfl ag2) ?_; clear hf; intro a hf
  refine sY hf hs rfl rfl rfl (Y_fieldAddr rfl rfl fo120_0) ?_; clear hf; intro a hf
  refine sY hf hs rfl rfl rfl (Y_load_blk rfl rfl (i := 1) rfl rfl ag2) ?_; clear hf; intro a hf
  refine sY hf hs rfl rfl rfl (Y_neq rfl rfl rfl) ?_; clear hf; intro a hf
  refine wpO_nil ?_
  refine wpL_cond hf rfl (fun hb3 => ?_) (fun hb3 => ?_)
  · have hm := bif_t hm hb3
    refine wpL_seq ?_
    refine wpL_region ?_
    refine sY hf hs rfl rfl rfl (Y_assign rfl rfl) ?_; clear hf; intro a hf
    refine wpO_nil ?_
    obtain rfl := Option.some.inj hm
    refine wpL_ret (ret_tmp rfl hf rfl ?_)
    exact ⟨_, rfl, rfl, hs.sel [] (by decide)⟩
  · have hm := bif_f hm hb3
    refine wpL_skip ?_
    refine wpL_seq ?_
    refine wpL_seq ?_
    refine wpL_region ?_
    refine sY hf hs rfl rfl rfl (Y_fieldAddr rfl rfl fo120_1) ?_; clear hf; intro a hf
    refine sY hf hs rfl rfl rfl (Y_load_blk rfl rfl (i := 0) rfl rfl ag2) ?_; clear hf; intro a hf
    refine sY hf hs rfl rfl rfl (Y_fieldAddr rfl rfl fo120_1) ?_; clear hf; intro a hf
    refine sY hf hs rfl rfl rfl (Y_load_blk rfl rfl (i := 1) rfl rfl ag2) ?_; clear hf; intro a hf
    refine sY hf hs rfl rfl rfl (Y_neq rfl rfl rfl) ?_; clear hf; intro a hf
    refine wpO_nil ?_
    refine wpL_cond hf rfl (fun hb4 => ?_) (fun hb4 => ?_)
    · have hm := bif_t hm hb4
      refine wpL_seq ?_
      refine wpL_region ?_
      refine sY hf hs rfl rfl rfl (Y_assign rfl rfl) ?_; clear hf; intro a hf
      refine wpO_nil ?_
      obtain rfl := Option.some.inj hm
      refine wpL_ret (ret_tmp rfl hf rfl ?_)
      exact ⟨_, rfl, rfl, hs.sel [] (by decide)⟩
    · have hm := bif_f hm hb4
      refine wpL_skip ?_
      refine wpL_seq ?_
      refine wpL_seq ?_
      refine wpL_region ?_
      refine sY hf hs rfl rfl rfl (Y_fieldAddr rfl rfl fo120_2) ?_; clear hf; intro a hf
      refine sY hf hs rfl rfl rfl (Y_load_blk rfl rfl (i := 0) rfl rfl ag2) ?_; clear hf; intro a hf
      refine sY hf hs rfl rfl rfl (Y_fieldAddr rfl rfl fo120_2) ?_; clear hf; intro a hf
      refine sY hf hs rfl rfl rfl (Y_load_blk rfl rfl (i := 1) rfl rfl ag2) ?_; clear hf; intro a hf
      refine sY hf hs rfl rfl rfl (Y_neq rfl rfl rfl) ?_; clear hf; intro a hf
      refine wpO_nil ?_
      refine wpL_cond hf rfl (fun hb5 => ?_) (fun hb5 => ?_)
      · have hm := bif_t hm hb5
        refine wpL_seq ?_
        refine wpL_region ?_
        refine sY hf hs rfl rfl rfl (Y_assign rfl rfl) ?_; clear hf; intro a hf
        refine wpO_nil ?_
        obtain rfl := Option.some.inj hm
        refine wpL_ret (ret_tmp rfl hf rfl ?_)
        exact ⟨_, rfl, rfl, hs.sel [] (by decide)⟩
      · have hm := bif_f hm hb5
        refine wpL_skip ?_
        refine wpL_seq ?_
        refine wpL_seq ?_
        refine wpL_region ?_
        refine sY hf hs rfl rfl rfl (Y_fieldAddr rfl rfl fo120_3) ?_; clear hf; intro a hf
        refine sY hf hs rfl rfl rfl (Y_load_blk rfl rfl (i := 0) rfl rfl ag2) ?_; clear hf; intro a hf
        refine sY hf hs rfl rfl rfl (Y_fieldAddr rfl rfl fo120_3) ?_; clear hf; intro a hf
        refine sY hf hs rfl rfl rfl (Y_load_blk rfl rfl (i := 1) rfl rfl ag2) ?_; clear hf; intro a hf
        refine sY hf hs rfl rfl rfl (Y_neq rfl rfl rfl) ?_; clear hf; intro a hf
        refine wpO_nil ?_
        refine wpL_cond hf rfl (fun hb6 => ?_) (fun hb6 => ?_)
        · have hm := bif_t hm hb6
          refine wpL_seq ?_
          refine wpL_region ?_
          refine sY hf hs rfl rfl rfl (Y_assign rfl rfl) ?_; clear hf; intro a hf
          refine wpO_nil ?_
          obtain rfl := Option.some.inj hm
          refine wpL_ret (ret_tmp rfl hf rfl ?_)
          exact ⟨_, rfl, rfl, hs.sel [] (by decide)⟩
        · have hm := bif_f hm hb6
          refine wpL_skip ?_
          refine wpL_seq ?_
          refine wpL_region ?_
          refine sY hf hs rfl rfl rfl (Y_assign rfl rfl) ?_; clear hf; intro a hf
          refine wpO_nil ?_
          obtain rfl := Option.some.inj hm
          refine wpL_ret (ret_tmp rfl hf rfl ?_)
          exact ⟨_, rfl, rfl, hs.sel [] (by decide)⟩

set_option maxRecDepth 100000 in
theorem laws_eqPlaceS_ok (F : Nat) (p0_a : List GPlace) (A_p0_a_1 : Option Addr) (n_p0_a_1 c_p0_a_1 : Nat) (hn_p0_a_1 : n_p0_a_1 = p0_a.length) (p1_b : List GPlace) (A_p1_b_1 : Option Addr) (n_p1_b_1 c_p1_b_1 : Nat) (hn_p1_b_1 : n_p1_b_1 = p1_b.length) (r : Bool) (W : World) (hm : laws_eqPlaceS F p0_a p1_b = some r) (h_p0_a_1 : Rd W A_p0_a_1 ((recs GPlace.cells) p0_a)) (h_p1_b_1 : Rd W A_p1_b_1 ((recs GPlace.cells) p1_b)) :
    Calls Try.prog 78 [.slice A_p0_a_1 n_p0_a_1 c_p0_a_1, .slice A_p1_b_1 n_p1_b_1 c_p1_b_1].toArray W fun e w' => ∃ v, e = .returned v ∧ v = .bool r ∧ St [] W w' [] := by
  subst hn_p0_a_1
  subst hn_p1_b_1
  unfold laws_eqPlaceS at hm
  refine Calls.enter (N := 27) Try.func78 rfl rfl rfl (fun a hf => ?_)
  have hs := St.start W
  obtain ⟨w, hw_⟩ : ∃ w, w = W := ⟨W, rfl⟩
  clear hw_ w
  refine wpL_seq ?_
  refine wpL_region ?_
  refine sY hf hs rfl rfl rfl (Y_assign rfl rfl) ?_; clear hf; intro a hf
  refine wpO_nil ?_
  refine wpL_seq ?_
  refine wpL_seq ?_
  refine wpL_region ?_
  refine sY hf hs rfl rfl rfl (Y_move rfl rfl) ?_; clear hf; intro a hf
  refine sY hf hs rfl rfl rfl (Y_lenH rfl rfl el28 rfl) ?_; clear hf; intro a hf
  refine sY hf hs rfl rfl rfl (Y_move rfl rfl) ?_; clear hf; intro a hf
  refine sY hf hs rfl rfl rfl (Y_lenH rfl rfl el28 rfl) ?_; clear hf; intro a hf
  refine sY hf hs rfl rfl rfl (Y_neq rfl rfl rfl) ?_; clear hf; intro a hf
  refine wpO_nil ?_
  refine wpL_cond hf rfl (fun hb1 => ?_) (fun hb1 => ?_)
  · have hm := bif_t hm hb1
    refine wpL_seq ?_
    refine wpL_region ?_
    refine sY hf hs rfl rfl rfl (Y_assign rfl rfl) ?_; clear hf; intro a hf
    refine wpO_nil ?_
    obtain rfl := Option.some.inj hm
    refine wpL_ret (ret_tmp rfl hf rfl ?_)
    exact ⟨_, rfl, rfl, hs⟩
  · have hm := bif_f hm hb1
    refine wpL_skip ?_
    refine wpL_seq ?_
    refine wpL_seq ?_
    refine wpL_region ?_
    refine sY hf hs rfl rfl rfl (Y_assign rfl rfl) ?_; clear hf; intro a hf
    refine wpO_nil ?_
    obtain ⟨r28, hl29, hm⟩ := bind_some hm
    refine wpL_block (fun a w => Sum.inr () = r28 ∧ Fr a 27 [] ∧ St [] W w []) ?_ ?_
    · refine wpL_loop (fun n a w => ∃ x19 : Int, laws_eqPlaceS_L1 F p0_a p1_b n x19 = some r28 ∧ Fr a 27 [(0, .slice A_p0_a_1 p0_a.length c_p0_a_1), (1, .slice A_p1_b_1 p1_b.length c_p1_b_1), (5, .int .i64 x19)] ∧ St [] W w []) F ?_ ?_ ?_
      · exact ⟨0, hl29, (Fr.pick (Fr.pick (Fr.pick hf.none hf rfl) hf rfl) hf rfl), hs⟩
      · rintro a w ⟨x19, h0_, -, -⟩; simp [laws_eqPlaceS_L1] at h0_
      · rintro n31 a w ⟨x19, hm30, hf, hs⟩
        rw [laws_eqPlaceS_L1] at hm30
        refine wpL_seq ?_
        refine wpL_seq ?_
        refine wpL_region ?_
        refine sY hf hs rfl rfl rfl (Y_move rfl rfl) ?_; clear hf; intro a hf
        refine sY hf hs rfl rfl rfl (Y_move rfl rfl) ?_; clear hf; intro a hf
        refine sY hf hs rfl rfl rfl (Y_lenH rfl rfl el28 rfl) ?_; clear hf; intro a hf
        refine sY hf hs rfl rfl rfl (Y_lss rfl rfl rfl) ?_; clear hf; intro a hf
        refine wpO_nil ?_
        refine wpL_cond hf rfl (fun hb32 => ?_) (fun hb32 => ?_)
        · have hm30 := bif_t hm30 hb32
          refine wpL_skip ?_
          refine wpL_seq ?_
          refine wpL_block0 ?_
          refine wpL_seq ?_
          refine wpL_draw (by kernel_rfl) (by kernel_rfl) hs ?_
          refine qY hf rfl rfl rfl (Y_move rfl rfl) ?_; clear hf; intro a hf
          refine qY hf rfl rfl rfl (Y_move rfl rfl) ?_; clear hf; intro a hf
          obtain ⟨q33, hi34, hm30⟩ := bind_some hm30
          obtain ⟨hi34a, hi34b, hi34q⟩ := idx_some hi34
          refine qY hf rfl rfl rfl (Y_index rfl rfl rfl el28 ti120 (Rd.isAt (h_p0_a_1.at hs) (recs_at (s := 4) GPlace.len hi34q (j := 0) rfl)) hi34a hi34b) ?_; clear hf; intro a hf
          refine qY hf rfl rfl rfl (Y_load_rdS rfl rfl (us := [.int .i64 q33.From, .int .i64 q33.To, .int .i64 q33.Delay, .int .i64 q33.Tokens]) (fun w hs => h_p0_a_1.at hs) (fun j u hj => recs_at (s := 4) GPlace.len hi34q hj) (Nat.succ_pos _) ag120 ti120 rfl) ?_; clear hf; intro a hf
          refine qY hf rfl rfl rfl (Y_move rfl rfl) ?_; clear hf; intro a hf
          refine qY hf rfl rfl rfl (Y_move rfl rfl) ?_; clear hf; intro a hf
          obtain ⟨q35, hi36, hm30⟩ := bind_some hm30
          obtain ⟨hi36a, hi36b, hi36q⟩ := idx_some hi36
          refine qY hf rfl rfl rfl (Y_index rfl rfl rfl el28 ti120 (Rd.isAt (h_p1_b_1.at hs) (recs_at (s := 4) GPlace.len hi36q (j := 0) rfl)) hi36a hi36b) ?_; clear hf; intro a hf
          refine qY hf rfl rfl rfl (Y_load_rdS rfl rfl (us := [.int .i64 q35.From, .int .i64 q35.To, .int .i64 q35.Delay, .int .i64 q35.Tokens]) (fun w hs => h_p1_b_1.at hs) (fun j u hj => recs_at (s := 4) GPlace.len hi36q hj) (Nat.succ_pos _) ag120 ti120 rfl) ?_; clear hf; intro a hf
          obtain ⟨r37, hc38, hm30⟩ := bind_some hm30
          refine qCall hf rfl rfl rfl rfl (cap := []) rfl rfl en129 (v := .bool r37) (fun w hs => Calls.scal (laws_eqPlace_ok F q33 q35 _ _ hc38)) ?_; clear hf; intro a hf
          refine qY hf rfl rfl rfl (Y_not rfl rfl) ?_; clear hf; intro a hf
          refine qNil ?_; clear hs; intro w hs
          refine wpL_cond hf rfl (fun hb39 => ?_) (fun hb39 => ?_)
          · have hm30 := bif_t hm30 hb39
            refine wpL_seq ?_
            refine wpL_region ?_
            refine sY hf hs rfl rfl rfl (Y_assign rfl rfl) ?_; clear hf; intro a hf
            refine wpO_nil ?_
            obtain rfl := Option.some.inj hm30
            try dsimp only at hm
            obtain rfl := Option.some.inj hm
            refine wpL_ret (Qb_ret (Ql_ret (Qb_ret (ret_tmp rfl hf rfl ?_))))
            exact ⟨_, rfl, rfl, hs⟩
          · have hm30 := bif_f hm30 hb39
            refine wpL_skip ?_
            refine wpL_nil (Qb_normal ?_)
            refine wpL_region ?_
            refine sY hf hs rfl rfl rfl (Y_move rfl rfl) ?_; clear hf; intro a hf
            refine sY hf hs rfl rfl rfl (Y_add rfl rfl rfl) ?_; clear hf; intro a hf
            refine sY hf hs rfl rfl rfl (Y_assign rfl rfl) ?_; clear hf; intro a hf
            refine wpO_nil ?_
            refine wpL_nil (Ql_normal ?_)
            exact ⟨(IntKind.i64.wrap (x19 + 1)), hm30, (Fr.pick (Fr.pick (Fr.pick hf.none hf rfl) hf rfl) hf rfl), hs⟩
        · have hm30 := bif_f hm30 hb32
          refine wpL_exit (Ql_exit (Qb_exit ?_))
          exact ⟨Option.some.inj hm30, hf.none, hs⟩
    · rintro a w ⟨hr_, hf, hs⟩
      subst hr_
      try dsimp only at hm
      refine wpL_seq ?_
      refine wpL_region ?_
      refine sY hf hs rfl rfl rfl (Y_assign rfl rfl) ?_; clear hf; intro a hf
      refine wpO_nil ?_
      obtain rfl := Option.some.inj hm
      refine wpL_ret (ret_tmp rfl hf rfl ?_)
      exact ⟨_, rfl, rfl, hs⟩

set_option maxRecDepth 100000 in
theorem laws_eqEventGraph_ok (F : Nat) (p0_a : GEventGraph) (A_p0_a_1 : Option Addr) (n_p0_a_1 c_p0_a_1 : Nat) (hn_p0_a_1 : n_p0_a_1 = p0_a.Places.length) (p1_b : GEventGraph) (A_p1_b_1 : Option Addr) (n_p1_b_1 c_p1_b_1 : Nat) (hn_p1_b_1 : n_p1_b_1 = p1_b.Places.length) (r : Bool) (W : World) (hm : laws_eqEventGraph F p0_a p1_b = some r) (h_p0_a_1 : Rd W A_p0_a_1 ((recs GPlace.cells) p0_a.Places)) (h_p1_b_1 : Rd W A_p1_b_1 ((recs GPlace.cells) p1_b.Places)) :
    Calls Try.prog 20 [.agg #[.int .i64 p0_a.Events, .slice A_p0_a_1 n_p0_a_1 c_p0_a_1], .agg #[.int .i64 p1_b.Events, .slice A_p1_b_1 n_p1_b_1 c_p1_b_1]].toArray W fun e w' => ∃ v, e = .returned v ∧ v = .bool r ∧ St [] W w' [] := by
  subst hn_p0_a_1
  subst hn_p1_b_1
  unfold laws_eqEventGraph at hm
  refine Calls.enter (N := 16) Try.func20 rfl rfl rfl (fun a hf => ?_)
  have hs := St.start W
  obtain ⟨w, hw_⟩ : ∃ w, w = W := ⟨W, rfl⟩
  clear hw_ w
  refine wpL_seq ?_
  refine wpL_region ?_
  refine sBox hf hs rfl rfl rfl rfl rfl (cs := [.int .i64 p0_a.Events, .slice A_p0_a_1 p0_a.Places.length c_p0_a_1]) rfl ?_; clear hf hs; intro a w b1 hs hf
  have hs : St [] W w [.blk b1 30 [.int .i64 p0_a.Events, .slice A_p0_a_1 p0_a.Places.length c_p0_a_1]] := hs
  refine sBox hf hs rfl rfl rfl rfl rfl (cs := [.int .i64 p1_b.Events, .slice A_p1_b_1 p1_b.Places.length c_p1_b_1]) rfl ?_; clear hf hs; intro a w b2 hs hf
  have hs : St [] W w [.blk b1 30 [.int .i64 p0_a.Events, .slice A_p0_a_1 p0_a.Places.length c_p0_a_1], .blk b2 30 [.int .i64 p1_b.Events, .slice A_p1_b_1 p1_b.Places.length c_p1_b_1]] := hs
  refine sY hf hs rfl rfl rfl (Y_assign rfl rfl) ?_; clear hf; intro a hf
  refine wpO_nil ?_
  refine wpL_seq ?_
  refine wpL_seq ?_
  refine wpL_region ?_
  refine sY hf hs rfl rfl rfl (Y_fieldAddr rfl rfl fo30_0) ?_; clear hf; intro a hf
  refine sY hf hs rfl rfl rfl (Y_load_blk rfl rfl (i := 0) rfl rfl ag2) ?_; clear hf; intro a hf
  refine sY hf hs rfl rfl rfl (Y_fieldAddr rfl rfl fo30_0) ?_; clear hf; intro a hf
  refine sY hf hs rfl rfl rfl (Y_load_blk rfl rfl (i := 1) rfl rfl ag2) ?_; clear hf; intro a hf
  refine sY hf hs rfl rfl rfl (Y_neq rfl rfl rfl) ?_; clear hf; intro a hf
  refine wpO_nil ?_
  refine wpL_cond hf rfl (fun hb3 => ?_) (fun hb3 => ?_)
  · have hm := bif_t hm hb3
    refine wpL_seq ?_
    refine wpL_region ?_
    refine sY hf hs rfl rfl rfl (Y_assign rfl rfl) ?_; clear hf; intro a hf
    refine wpO_nil ?_
    obtain rfl := Option.some.inj hm
    refine wpL_ret (ret_tmp rfl hf rfl ?_)
    exact ⟨_, rfl, rfl, hs.sel [] (by decide)⟩
  · have hm := bif_f hm hb3
    refine wpL_skip ?_
    refine wpL_seq ?_
    refine wpL_seq ?_
    refine wpL_region ?_
    refine sY hf hs rfl rfl rfl (Y_fieldAddr rfl rfl fo30_1) ?_; clear hf; intro a hf
    refine sY hf hs rfl rfl rfl (Y_load_blk rfl rfl (i := 0) rfl rfl ag28) ?_; clear hf; intro a hf
    refine sY hf hs rfl rfl rfl (Y_fieldAddr rfl rfl fo30_1) ?_; clear hf; intro a hf
    refine sY hf hs rfl rfl rfl (Y_load_blk rfl rfl (i := 1) rfl rfl ag28) ?_; clear hf; intro a hf
    obtain ⟨r4, hc5, hm⟩ := bind_some hm
    refine sCall hf rfl rfl rfl rfl (cap := []) rfl rfl en78 (laws_eqPlaceS_ok F p0_a.Places A_p0_a_1 p0_a.Places.length c_p0_a_1 rfl p1_b.Places A_p1_b_1 p1_b.Places.length c_p1_b_1 rfl _ _ hc5 (h_p0_a_1.at hs) (h_p1_b_1.at hs)) ?_; clear hf
    rintro _ w ⟨rfl, hs1⟩ a hf
    have hs : St [] W w [.blk b1 30 [.int .i64 p0_a.Events, .slice A_p0_a_1 p0_a.Places.length c_p0_a_1], .blk b2 30 [.int .i64 p1_b.Events, .slice A_p1_b_1 p1_b.Places.length c_p1_b_1]] := hs.ext hs1.below
    clear hs1
    refine sY hf hs rfl rfl rfl (Y_not rfl rfl) ?_; clear hf; intro a hf
    refine wpO_nil ?_
    refine wpL_cond hf rfl (fun hb6 => ?_) (fun hb6 => ?_)
    · have hm := bif_t hm hb6
      refine wpL_seq ?_
      refine wpL_region ?_
      refine sY hf hs rfl rfl rfl (Y_assign rfl rfl) ?_; clear hf; intro a hf
      refine wpO_nil ?_
      obtain rfl := Option.some.inj hm
      refine wpL_ret (ret_tmp rfl hf rfl ?_)
      exact ⟨_, rfl, rfl, hs.sel [] (by decide)⟩
    · have hm := bif_f hm hb6
      refine wpL_skip ?_
      refine wpL_seq ?_
      refine wpL_region ?_
      refine sY hf hs rfl rfl rfl (Y_assign rfl rfl) ?_; clear hf; intro a hf
      refine wpO_nil ?_
      obtain rfl := Option.some.inj hm
      refine wpL_ret (ret_tmp rfl hf rfl ?_)
      exact ⟨_, rfl, rfl, hs.sel [] (by decide)⟩

set_option maxRecDepth 100000 in
theorem laws_markPlaceS_ok (F : Nat) (p0_a : List GPlace) (A_p0_a_1 : Option Addr) (n_p0_a_1 c_p0_a_1 : Nat) (hn_p0_a_1 : n_p0_a_1 = p0_a.length) (p1_k : Int) (r : (Int) × List GPlace) (W : World) (hm : laws_markPlaceS F p0_a p1_k = some r) (h_p0_a_1 : (Res.row A_p0_a_1 n_p0_a_1 c_p0_a_1 120 4 ((recs GPlace.cells) p0_a) : Res).holds 0 W) :
    Calls Try.prog 89 [.slice A_p0_a_1 n_p0_a_1 c_p0_a_1, .int .i64 p1_k].toArray W fun e w' => ∃ v, e = .returned v ∧ v = .int .i64 r.1 ∧ n_p0_a_1 = r.2.length ∧ St (muA A_p0_a_1) W w' [.row A_p0_a_1 n_p0_a_1 c_p0_a_1 120 4 ((recs GPlace.cells) r.2)] := by
  subst hn_p0_a_1
  unfold laws_markPlaceS at hm
  refine Calls.enter (N := 41) Try.func89 rfl rfl rfl (fun a hf => ?_)
  have hs : St (muA A_p0_a_1) W W [.row A_p0_a_1 p0_a.length c_p0_a_1 120 4 ((recs GPlace.cells) p0_a)] := St.startMut h_p0_a_1 (fun b hb => mem_muA hb)
  obtain ⟨w, hw_⟩ : ∃ w, w = W := ⟨W, rfl⟩
  clear hw_ w
  refine wpL_seq ?_
  refine wpL_region ?_
  refine sY hf hs rfl rfl rfl (Y_assign rfl rfl) ?_; clear hf; intro a hf
  refine wpO_nil ?_
  refine wpL_seq ?_
  refine wpL_seq ?_
  refine wpL_region ?_
  refine sY hf hs rfl rfl rfl (Y_assign rfl rfl) ?_; clear hf; intro a hf
  refine wpO_nil ?_
  obtain ⟨r63, hl64, hm⟩ := bind_some hm
  refine wpL_block (fun a w => ∃ xs60 : List GPlace, ∃ x62 : Int, (xs60, x62) = r63 ∧ p0_a.length = xs60.length ∧ Fr a 41 [(1, .int .i64 x62)] ∧ St (muA A_p0_a_1) W w [.row A_p0_a_1 p0_a.length c_p0_a_1 120 4 ((recs GPlace.cells) xs60)]) ?_ ?_
  · refine wpL_loop (fun n a w => ∃ xs39 : List GPlace, ∃ x41 : Int, ∃ x42 : Int, laws_markPlaceS_L1 F n xs39 x41 x42 = some r63 ∧ p0_a.length = xs39.length ∧ Fr a 41 [(0, .slice A_p0_a_1 p0_a.length c_p0_a_1), (1, .int .i64 x41), (5, .int .i64 x42)] ∧ St (muA A_p0_a_1) W w [.row A_p0_a_1 p0_a.length c_p0_a_1 120 4 ((recs GPlace.cells) xs39)]) F ?_ ?_ ?_
    · exact ⟨p0_a, p1_k, 0, hl64, rfl, (Fr.pick (Fr.pick (Fr.pick hf.none hf rfl) hf rfl) hf rfl), hs⟩
    · rintro a w ⟨xs39, x41, x42, h0_, -, -, -⟩; simp [laws_markPlaceS_L1] at h0_
    · rintro n66 a w ⟨xs39, x41, x42, hm65, hn40, hf, hs⟩
      rw [laws_markPlaceS_L1] at hm65
      refine wpL_seq ?_
      refine wpL_seq ?_
      refine wpL_region ?_
      refine sY hf hs rfl rfl rfl (Y_move rfl rfl) ?_; clear hf; intro a hf
      refine sY hf hs rfl rfl rfl (Y_move rfl rfl) ?_; clear hf; intro a hf
      refine sY hf hs rfl rfl rfl (Y_lenH rfl rfl el28 hn40) ?_; clear hf; intro a hf
      refine sY hf hs rfl rfl rfl (Y_lss rfl rfl rfl) ?_; clear hf; intro a hf
      refine wpO_nil ?_
      refine wpL_cond hf rfl (fun hb67 => ?_) (fun hb67 => ?_)
      · have hm65 := bif_t hm65 hb67
        refine wpL_skip ?_
        refine wpL_seq ?_
        refine wpL_block0 ?_
        refine wpL_seq ?_
        refine wpL_region ?_
        refine sY hf hs rfl rfl rfl (Y_move rfl rfl) ?_; clear hf; intro a hf
        refine sY hf hs rfl rfl rfl (Y_move rfl rfl) ?_; clear hf; intro a hf
        refine sY hf hs rfl rfl rfl (Y_move rfl rfl) ?_; clear hf; intro a hf
        obtain ⟨q68, hi69, hm65⟩ := bind_some hm65
        obtain ⟨hi69a, hi69b, hi69q⟩ := idx_some hi69
        refine sY hf hs rfl rfl rfl (Y_index rfl rfl rfl el28 ti120 (Rd.isAt (hs.rd (i := 0) rfl) (recs_at (s := 4) GPlace.len hi69q (j := 0) rfl)) hi69a (ltn hn40 hi69b)) ?_; clear hf; intro a hf
        refine sY hf hs rfl rfl rfl (Y_fieldAddrE rfl rfl fo120_0) ?_; clear hf; intro a hf
        obtain ⟨xs70, hu71, hm65⟩ := bind_some hm65
        refine sStoreF (i := 0) (s := 4) (fo := 0) (f := GPlace.cells) (x' := (GPlace.mk x41 q68.To q68.Delay q68.Tokens)) hf hs rfl rfl rfl rfl rfl rfl hi69q hu71 ti2 rfl rfl rfl GPlace.len rfl rfl ?_; clear hs; intro w hs
        have hs : St (muA A_p0_a_1) W w [.row A_p0_a_1 p0_a.length c_p0_a_1 120 4 ((recs GPlace.cells) xs70)] := hs
        refine wpO_nil ?_
        refine wpL_seq ?_
        refine wpL_region ?_
        refine sY hf hs rfl rfl rfl (Y_move rfl rfl) ?_; clear hf; intro a hf
        refine sY hf hs rfl rfl rfl (Y_add rfl rfl rfl) ?_; clear hf; intro a hf
        refine sY hf hs rfl rfl rfl (Y_assign rfl rfl) ?_; clear hf; intro a hf
        refine wpO_nil ?_
        refine wpL_seq ?_
        refine wpL_region ?_
        refine sY hf hs rfl rfl rfl (Y_move rfl rfl) ?_; clear hf; intro a hf
        refine sY hf hs rfl rfl rfl (Y_move rfl rfl) ?_; clear hf; intro a hf
        refine sY hf hs rfl rfl rfl (Y_move rfl rfl) ?_; clear hf; intro a hf
        obtain ⟨q72, hi73, hm65⟩ := bind_some hm65
        obtain ⟨hi73a, hi73b, hi73q⟩ := idx_some hi73
        refine sY hf hs rfl rfl rfl (Y_index rfl rfl rfl el28 ti120 (Rd.isAt (hs.rd (i := 0) rfl) (recs_at (s := 4) GPlace.len hi73q (j := 0) rfl)) hi73a (ltn ((hn40).trans (upd_len hu71).symm) hi73b)) ?_; clear hf; intro a hf
        refine sY hf hs rfl rfl rfl (Y_fieldAddrE rfl rfl fo120_1) ?_; clear hf; intro a hf
        obtain ⟨xs74, hu75, hm65⟩ := bind_some hm65
        refine sStoreF (i := 0) (s := 4) (fo := 1) (f := GPlace.cells) (x' := (GPlace.mk q72.From (IntKind.i64.wrap (x41 + 1)) q72.Delay q72.Tokens)) hf hs rfl rfl rfl rfl rfl rfl hi73q hu75 ti2 rfl rfl rfl GPlace.len rfl rfl ?_; clear hs; intro w hs
        have hs : St (muA A_p0_a_1) W w [.row A_p0_a_1 p0_a.length c_p0_a_1 120 4 ((recs GPlace.cells) xs74)] := hs
        refine wpO_nil ?_
        refine wpL_seq ?_
        refine wpL_region ?_
        refine sY hf hs rfl rfl rfl (Y_move rfl rfl) ?_; clear hf; intro a hf
        refine sY hf hs rfl rfl rfl (Y_add rfl rfl rfl) ?_; clear hf; intro a hf
        refine sY hf hs rfl rfl rfl (Y_assign rfl rfl) ?_; clear hf; intro a hf
        refine wpO_nil ?_
        refine wpL_seq ?_
        refine wpL_region ?_
        refine sY hf hs rfl rfl rfl (Y_move rfl rfl) ?_; clear hf; intro a hf
        refine sY hf hs rfl rfl rfl (Y_move rfl rfl) ?_; clear hf; intro a hf
        refine sY hf hs rfl rfl rfl (Y_move rfl rfl) ?_; clear hf; intro a hf
        obtain ⟨q76, hi77, hm65⟩ := bind_some hm65
        obtain ⟨hi77a, hi77b, hi77q⟩ := idx_some hi77
        refine sY hf hs rfl rfl rfl (Y_index rfl rfl rfl el28 ti120 (Rd.isAt (hs.rd (i := 0) rfl) (recs_at (s := 4) GPlace.len hi77q (j := 0) rfl)) hi77a (ltn ((((hn40).trans (upd_len hu71).symm)).trans (upd_len hu75).symm) hi77b)) ?_; clear hf; intro a hf
        refine sY hf hs rfl rfl rfl (Y_fieldAddrE rfl rfl fo120_2) ?_; clear hf; intro a hf
        obtain ⟨xs78, hu79, hm65⟩ := bind_some hm65
        refine sStoreF (i := 0) (s := 4) (fo := 2) (f := GPlace.cells) (x' := (GPlace.mk q76.From q76.To (IntKind.i64.wrap ((IntKind.i64.wrap (x41 + 1)) + 1)) q76.Tokens)) hf hs rfl rfl rfl rfl rfl rfl hi77q hu79 ti2 rfl rfl rfl GPlace.len rfl rfl ?_; clear hs; intro w hs
        have hs : St (muA A_p0_a_1) W w [.row A_p0_a_1 p0_a.length c_p0_a_1 120 4 ((recs GPlace.cells) xs78)] := hs
        refine wpO_nil ?_
        refine wpL_seq ?_
        refine wpL_region ?_
        refine sY hf hs rfl rfl rfl (Y_move rfl rfl) ?_; clear hf; intro a hf
        refine sY hf hs rfl rfl rfl (Y_add rfl rfl rfl) ?_; clear hf; intro a hf
        refine sY hf hs rfl rfl rfl (Y_assign rfl rfl) ?_; clear hf; intro a hf
        refine wpO_nil ?_
        refine wpL_seq ?_
        refine wpL_region ?_
        refine sY hf hs rfl rfl rfl (Y_move rfl rfl) ?_; clear hf; intro a hf
        refine sY hf hs rfl rfl rfl (Y_move rfl rfl) ?_; clear hf; intro a hf
        refine sY hf hs rfl rfl rfl (Y_move rfl rfl) ?_; clear hf; intro a hf
        obtain ⟨q80, hi81, hm65⟩ := bind_some hm65
        obtain ⟨hi81a, hi81b, hi81q⟩ := idx_some hi81
        refine sY hf hs rfl rfl rfl (Y_index rfl rfl rfl el28 ti120 (Rd.isAt (hs.rd (i := 0) rfl) (recs_at (s := 4) GPlace.len hi81q (j := 0) rfl)) hi81a (ltn ((((((hn40).trans (upd_len hu71).symm)).trans (upd_len hu75).symm)).trans (upd_len hu79).symm) hi81b)) ?_; clear hf; intro a hf
        refine sY hf hs rfl rfl rfl (Y_fieldAddrE rfl rfl fo120_3) ?_; clear hf; intro a hf
        obtain ⟨xs82, hu83, hm65⟩ := bind_some hm65
        refine sStoreF (i := 0) (s := 4) (fo := 3) (f := GPlace.cells) (x' := (GPlace.mk q80.From q80.To q80.Delay (IntKind.i64.wrap ((IntKind.i64.wrap ((IntKind.i64.wrap (x41 + 1)) + 1)) + 1)))) hf hs rfl rfl rfl rfl rfl rfl hi81q hu83 ti2 rfl rfl rfl GPlace.len rfl rfl ?_; clear hs; intro w hs
        have hs : St (muA A_p0_a_1) W w [.row A_p0_a_1 p0_a.length c_p0_a_1 120 4 ((recs GPlace.cells) xs82)] := hs
        refine wpO_nil ?_
        refine wpL_region ?_
        refine sY hf hs rfl rfl rfl (Y_move rfl rfl) ?_; clear hf; intro a hf
        refine sY hf hs rfl rfl rfl (Y_add rfl rfl rfl) ?_; clear hf; intro a hf
        refine sY hf hs rfl rfl rfl (Y_assign rfl rfl) ?_; clear hf; intro a hf
        refine wpO_nil ?_
        refine wpL_nil (Qb_normal ?_)
        refine wpL_region ?_
        refine sY hf hs rfl rfl rfl (Y_move rfl rfl) ?_; clear hf; intro a hf
        refine sY hf hs rfl rfl rfl (Y_add rfl rfl rfl) ?_; clear hf; intro a hf
        refine sY hf hs rfl rfl rfl (Y_assign rfl rfl) ?_; clear hf; intro a hf
        refine wpO_nil ?_
        refine wpL_nil (Ql_normal ?_)
        exact ⟨xs82, (IntKind.i64.wrap ((IntKind.i64.wrap ((IntKind.i64.wrap ((IntKind.i64.wrap (x41 + 1)) + 1)) + 1)) + 1)), (IntKind.i64.wrap (x42 + 1)), hm65, ((((((((hn40).trans (upd_len hu71).symm)).trans (upd_len hu75).symm)).trans (upd_len hu79).symm)).trans (upd_len hu83).symm), (Fr.pick (Fr.pick (Fr.pick hf.none hf rfl) hf rfl) hf rfl), hs⟩
      · have hm65 := bif_f hm65 hb67
        refine wpL_exit (Ql_exit (Qb_exit ?_))
        exact ⟨xs39, x41, Option.some.inj hm65, hn40, (Fr.pick hf.none hf rfl), hs⟩
  · rintro a w ⟨xs60, x62, hr_, hn61, hf, hs⟩
    subst hr_
    try dsimp only at hm
    refine wpL_seq ?_
    refine wpL_region ?_
    refine sY hf hs rfl rfl rfl (Y_move rfl rfl) ?_; clear hf; intro a hf
    refine sY hf hs rfl rfl rfl (Y_assign rfl rfl) ?_; clear hf; intro a hf
    refine wpO_nil ?_
    obtain rfl := Option.some.inj hm
    refine wpL_ret (ret_tmp rfl hf rfl ?_)
    exact ⟨_, rfl, rfl, hn61, hs⟩

set_option maxRecDepth 100000 in
theorem laws_markEventGraph_ok (F : Nat) (p0_a : GEventGraph) (A_p0_a_1 : Option Addr) (n_p0_a_1 c_p0_a_1 : Nat) (hn_p0_a_1 : n_p0_a_1 = p0_a.Places.length) (p1_k : Int) (r : (Int) × List GPlace) (W : World) (hm : laws_markEventGraph F p0_a p1_k = some r) (h_p0_a_1 : (Res.row A_p0_a_1 n_p0_a_1 c_p0_a_1 120 4 ((recs GPlace.cells) p0_a.Places) : Res).holds 0 W) :
    Calls Try.prog 32 [.agg #[.int .i64 p0_a.Events, .slice A_p0_a_1 n_p0_a_1 c_p0_a_1], .int .i64 p1_k].toArray W fun e w' => ∃ v, e = .returned v ∧ v = .int .i64 r.1 ∧ n_p0_a_1 = r.2.length ∧ St (muA A_p0_a_1) W w' [.row A_p0_a_1 n_p0_a_1 c_p0_a_1 120 4 ((recs GPlace.cells) r.2)] := by
  subst hn_p0_a_1
  unfold laws_markEventGraph at hm
  refine Calls.enter (N := 10) Try.func32 rfl rfl rfl (fun a hf => ?_)
  have hs : St (muA A_p0_a_1) W W [.row A_p0_a_1 p0_a.Places.length c_p0_a_1 120 4 ((recs GPlace.cells) p0_a.Places)] := St.startMut h_p0_a_1 (fun b hb => mem_muA hb)
  obtain ⟨w, hw_⟩ : ∃ w, w = W := ⟨W, rfl⟩
  clear hw_ w
  refine wpL_seq ?_
  refine wpL_region ?_
  refine sBox hf hs rfl rfl rfl rfl rfl (cs := [.int .i64 p0_a.Events, .slice A_p0_a_1 p0_a.Places.length c_p0_a_1]) rfl ?_; clear hf hs; intro a w b1 hs hf
  have hs : St (muA A_p0_a_1) W w [.row A_p0_a_1 p0_a.Places.length c_p0_a_1 120 4 ((recs GPlace.cells) p0_a.Places), .blk b1 30 [.int .i64 p0_a.Events, .slice A_p0_a_1 p0_a.Places.length c_p0_a_1]] := hs
  refine sY hf hs rfl rfl rfl (Y_assign rfl rfl) ?_; clear hf; intro a hf
  refine wpO_nil ?_
  refine wpL_seq ?_
  refine wpL_region ?_
  refine sY hf hs rfl rfl rfl (Y_fieldAddr rfl rfl fo30_1) ?_; clear hf; intro a hf
  refine sY hf hs rfl rfl rfl (Y_load_blk rfl rfl (i := 1) rfl rfl ag28) ?_; clear hf; intro a hf
  refine sY hf hs rfl rfl rfl (Y_move rfl rfl) ?_; clear hf; intro a hf
  obtain ⟨r2, hc3, hm⟩ := bind_some hm
  refine sCall hf rfl rfl rfl rfl (cap := []) rfl rfl en89 (laws_markPlaceS_ok F p0_a.Places A_p0_a_1 p0_a.Places.length c_p0_a_1 rfl p1_k _ _ hc3 (hs.res _ _ (show _[0]? = some _ from rfl))) ?_; clear hf
  rintro _ w ⟨rfl, hn4, hs1⟩ a hf
  have hs : St (muA A_p0_a_1) W w [.row A_p0_a_1 p0_a.Places.length c_p0_a_1 120 4 ((recs GPlace.cells) r2.2), .blk b1 30 [.int .i64 p0_a.Events, .slice A_p0_a_1 p0_a.Places.length c_p0_a_1]] := hs.mut (i := 0) rfl (fun b hb => muA_mem hb) hs1
  clear hs1
  refine sY hf hs rfl rfl rfl (Y_assign rfl rfl) ?_; clear hf; intro a hf
  refine wpO_nil ?_
  refine wpL_seq ?_
  refine wpL_region ?_
  refine sY hf hs rfl rfl rfl (Y_move rfl rfl) ?_; clear hf; intro a hf
  refine sY hf hs rfl rfl rfl (Y_assign rfl rfl) ?_; clear hf; intro a hf
  refine wpO_nil ?_
  obtain rfl := Option.some.inj hm
  refine wpL_ret (ret_tmp rfl hf rfl ?_)
  exact ⟨_, rfl, rfl, hn4, hs.sel [0] (by decide)⟩

set_option maxRecDepth 100000 in
theorem laws_markInt64S_ok (F : Nat) (p0_a : List Int) (A_p0_a_1 : Option Addr) (n_p0_a_1 c_p0_a_1 : Nat) (hn_p0_a_1 : n_p0_a_1 = p0_a.length) (p1_k : Int) (r : (Int) × List Int) (W : World) (hm : laws_markInt64S F p0_a p1_k = some r) (h_p0_a_1 : (Res.row A_p0_a_1 n_p0_a_1 c_p0_a_1 2 1 (ints p0_a) : Res).holds 0 W) :
    Calls Try.prog 28 [.slice A_p0_a_1 n_p0_a_1 c_p0_a_1, .int .i64 p1_k].toArray W fun e w' => ∃ v, e = .returned v ∧ v = .int .i64 r.1 ∧ n_p0_a_1 = r.2.length ∧ St (muA A_p0_a_1) W w' [.row A_p0_a_1 n_p0_a_1 c_p0_a_1 2 1 (ints r.2)] := by
  subst hn_p0_a_1
  unfold laws_markInt64S at hm
  refine Calls.enter (N := 19) Try.func28 rfl rfl rfl (fun a hf => ?_)
  have hs : St (muA A_p0_a_1) W W [.row A_p0_a_1 p0_a.length c_p0_a_1 2 1 (ints p0_a)] := St.startMut h_p0_a_1 (fun b hb => mem_muA hb)
  obtain ⟨w, hw_⟩ : ∃ w, w = W := ⟨W, rfl⟩
  clear hw_ w
  refine wpL_seq ?_
  refine wpL_region ?_
  refine sY hf hs rfl rfl rfl (Y_assign rfl rfl) ?_; clear hf; intro a hf
  refine wpO_nil ?_
  refine wpL_seq ?_
  refine wpL_seq ?_
  refine wpL_region ?_
  refine sY hf hs rfl rfl rfl (Y_assign rfl rfl) ?_; clear hf; intro a hf
  refine wpO_nil ?_
  obtain ⟨r27, hl28, hm⟩ := bind_some hm
  refine wpL_block (fun a w => ∃ xs24 : List Int, ∃ x26 : Int, (xs24, x26) = r27 ∧ p0_a.length = xs24.length ∧ Fr a 19 [(1, .int .i64 x26)] ∧ St (muA A_p0_a_1) W w [.row A_p0_a_1 p0_a.length c_p0_a_1 2 1 (ints xs24)]) ?_ ?_
  · refine wpL_loop (fun n a w => ∃ xs15 : List Int, ∃ x17 : Int, ∃ x18 : Int, laws_markInt64S_L1 F n xs15 x17 x18 = some r27 ∧ p0_a.length = xs15.length ∧ Fr a 19 [(0, .slice A_p0_a_1 p0_a.length c_p0_a_1), (1, .int .i64 x17), (5, .int .i64 x18)] ∧ St (muA A_p0_a_1) W w [.row A_p0_a_1 p0_a.length c_p0_a_1 2 1 (ints xs15)]) F ?_ ?_ ?_
    · exact ⟨p0_a, p1_k, 0, hl28, rfl, (Fr.pick (Fr.pick (Fr.pick hf.none hf rfl) hf rfl) hf rfl), hs⟩
    · rintro a w ⟨xs15, x17, x18, h0_, -, -, -⟩; simp [laws_markInt64S_L1] at h0_
    · rintro n30 a w ⟨xs15, x17, x18, hm29, hn16, hf, hs⟩
      rw [laws_markInt64S_L1] at hm29
      refine wpL_seq ?_
      refine wpL_seq ?_
      refine wpL_region ?_
      refine sY hf hs rfl rfl rfl (Y_move rfl rfl) ?_; clear hf; intro a hf
      refine sY hf hs rfl rfl rfl (Y_move rfl rfl) ?_; clear hf; intro a hf
      refine sY hf hs rfl rfl rfl (Y_lenH rfl rfl el36 hn16) ?_; clear hf; intro a hf
      refine sY hf hs rfl rfl rfl (Y_lss rfl rfl rfl) ?_; clear hf; intro a hf
      refine wpO_nil ?_
      refine wpL_cond hf rfl (fun hb31 => ?_) (fun hb31 => ?_)
      · have hm29 := bif_t hm29 hb31
        refine wpL_skip ?_
        refine wpL_seq ?_
        refine wpL_block0 ?_
        refine wpL_seq ?_
        refine wpL_region ?_
        refine sY hf hs rfl rfl rfl (Y_move rfl rfl) ?_; clear hf; intro a hf
        refine sY hf hs rfl rfl rfl (Y_move rfl rfl) ?_; clear hf; intro a hf
        refine sY hf hs rfl rfl rfl (Y_move rfl rfl) ?_; clear hf; intro a hf
        obtain ⟨q32, hi33, hm29⟩ := bind_some hm29
        obtain ⟨hi33a, hi33b, hi33q⟩ := idx_some hi33
        refine sY hf hs rfl rfl rfl (Y_index rfl rfl rfl el36 ti2 (Rd.isAt (hs.rd (i := 0) rfl) (at1 (ints_at hi33q))) hi33a (ltn hn16 hi33b)) ?_; clear hf; intro a hf
        obtain ⟨xs34, hu35, hm29⟩ := bind_some hm29
        refine sStoreL (i := 0) (us := [.int .i64 x17]) (enc := ints) hf hs rfl rfl rfl rfl rfl rfl hn16 hu35 ti2 rfl rfl rfl rfl rfl ints_len1 (ints_set x17) ?_; clear hs; intro w hs
        have hs : St (muA A_p0_a_1) W w [.row A_p0_a_1 p0_a.length c_p0_a_1 2 1 (ints xs34)] := hs
        refine wpO_nil ?_
        refine wpL_region ?_
        refine sY hf hs rfl rfl rfl (Y_move rfl rfl) ?_; clear hf; intro a hf
        refine sY hf hs rfl rfl rfl (Y_add rfl rfl rfl) ?_; clear hf; intro a hf
        refine sY hf hs rfl rfl rfl (Y_assign rfl rfl) ?_; clear hf; intro a hf
        refine wpO_nil ?_
        refine wpL_nil (Qb_normal ?_)
        refine wpL_region ?_
        refine sY hf hs rfl rfl rfl (Y_move rfl rfl) ?_; clear hf; intro a hf
        refine sY hf hs rfl rfl rfl (Y_add rfl rfl rfl) ?_; clear hf; intro a hf
        refine sY hf hs rfl rfl rfl (Y_assign rfl rfl) ?_; clear hf; intro a hf
        refine wpO_nil ?_
        refine wpL_nil (Ql_normal ?_)
        exact ⟨xs34, (IntKind.i64.wrap (x17 + 1)), (IntKind.i64.wrap (x18 + 1)), hm29, ((hn16).trans (upd_len hu35).symm), (Fr.pick (Fr.pick (Fr.pick hf.none hf rfl) hf rfl) hf rfl), hs⟩
      · have hm29 := bif_f hm29 hb31
        refine wpL_exit (Ql_exit (Qb_exit ?_))
        exact ⟨xs15, x17, Option.some.inj hm29, hn16, (Fr.pick hf.none hf rfl), hs⟩
  · rintro a w ⟨xs24, x26, hr_, hn25, hf, hs⟩
    subst hr_
    try dsimp only at hm
    refine wpL_seq ?_
    refine wpL_region ?_
    refine sY hf hs rfl rfl rfl (Y_move rfl rfl) ?_; clear hf; intro a hf
    refine sY hf hs rfl rfl rfl (Y_assign rfl rfl) ?_; clear hf; intro a hf
    refine wpO_nil ?_
    obtain rfl := Option.some.inj hm
    refine wpL_ret (ret_tmp rfl hf rfl ?_)
    exact ⟨_, rfl, rfl, hn25, hs⟩

set_option maxRecDepth 100000 in
theorem laws_heldInt64S_ok (F : Nat) (p0_a : List Int) (A_p0_a_1 : Option Addr) (n_p0_a_1 c_p0_a_1 : Nat) (hn_p0_a_1 : n_p0_a_1 = p0_a.length) (p1_k : Int) (r : Int) (W : World) (hm : laws_heldInt64S F p0_a p1_k = some r) (h_p0_a_1 : Rd W A_p0_a_1 (ints p0_a)) :
    Calls Try.prog 29 [.slice A_p0_a_1 n_p0_a_1 c_p0_a_1, .int .i64 p1_k].toArray W fun e w' => ∃ v, e = .returned v ∧ v = .int .i64 r ∧ St [] W w' [] := by
  subst hn_p0_a_1
  unfold laws_heldInt64S at hm
  refine Calls.enter (N := 21) Try.func29 rfl rfl rfl (fun a hf => ?_)
  have hs := St.start W
  obtain ⟨w, hw_⟩ : ∃ w, w = W := ⟨W, rfl⟩
  clear hw_ w
  refine wpL_seq ?_
  refine wpL_region ?_
  refine sY hf hs rfl rfl rfl (Y_assign rfl rfl) ?_; clear hf; intro a hf
  refine wpO_nil ?_
  refine wpL_seq ?_
  refine wpL_seq ?_
  refine wpL_region ?_
  refine sY hf hs rfl rfl rfl (Y_assign rfl rfl) ?_; clear hf; intro a hf
  refine wpO_nil ?_
  obtain ⟨r18, hl19, hm⟩ := bind_some hm
  refine wpL_block (fun a w => ∃ x17 : Int, Sum.inr x17 = r18 ∧ Fr a 21 [(1, .int .i64 x17)] ∧ St [] W w []) ?_ ?_
  · refine wpL_loop (fun n a w => ∃ x11 : Int, ∃ x12 : Int, laws_heldInt64S_L1 F p0_a n x11 x12 = some r18 ∧ Fr a 21 [(0, .slice A_p0_a_1 p0_a.length c_p0_a_1), (1, .int .i64 x11), (5, .int .i64 x12)] ∧ St [] W w []) F ?_ ?_ ?_
    · exact ⟨p1_k, 0, hl19, (Fr.pick (Fr.pick (Fr.pick hf.none hf rfl) hf rfl) hf rfl), hs⟩
    · rintro a w ⟨x11, x12, h0_, -, -⟩; simp [laws_heldInt64S_L1] at h0_
    · rintro n21 a w ⟨x11, x12, hm20, hf, hs⟩
      rw [laws_heldInt64S_L1] at hm20
      refine wpL_seq ?_
      refine wpL_seq ?_
      refine wpL_region ?_
      refine sY hf hs rfl rfl rfl (Y_move rfl rfl) ?_; clear hf; intro a hf
      refine sY hf hs rfl rfl rfl (Y_move rfl rfl) ?_; clear hf; intro a hf
      refine sY hf hs rfl rfl rfl (Y_lenH rfl rfl el36 rfl) ?_; clear hf; intro a hf
      refine sY hf hs rfl rfl rfl (Y_lss rfl rfl rfl) ?_; clear hf; intro a hf
      refine wpO_nil ?_
      refine wpL_cond hf rfl (fun hb22 => ?_) (fun hb22 => ?_)
      · have hm20 := bif_t hm20 hb22
        refine wpL_skip ?_
        refine wpL_seq ?_
        refine wpL_block0 ?_
        refine wpL_seq ?_
        refine wpL_seq ?_
        refine wpL_region ?_
        refine sY hf hs rfl rfl rfl (Y_move rfl rfl) ?_; clear hf; intro a hf
        refine sY hf hs rfl rfl rfl (Y_move rfl rfl) ?_; clear hf; intro a hf
        obtain ⟨q23, hi24, hm20⟩ := bind_some hm20
        obtain ⟨hi24a, hi24b, hi24q⟩ := idx_some hi24
        refine sY hf hs rfl rfl rfl (Y_index rfl rfl rfl el36 ti2 (Rd.isAt (h_p0_a_1.at hs) (at1 (ints_at hi24q))) hi24a hi24b) ?_; clear hf; intro a hf
        refine sY hf hs rfl rfl rfl (Y_load_rd rfl rfl (fun w hs => h_p0_a_1.at hs) (at1 (ints_at hi24q)) ag2) ?_; clear hf; intro a hf
        refine sY hf hs rfl rfl rfl (Y_move rfl rfl) ?_; clear hf; intro a hf
        refine sY hf hs rfl rfl rfl (Y_neq rfl rfl rfl) ?_; clear hf; intro a hf
        refine wpO_nil ?_
        refine wpL_cond hf rfl (fun hb25 => ?_) (fun hb25 => ?_)
        · have hm20 := bif_t hm20 hb25
          refine wpL_seq ?_
          refine wpL_region ?_
          refine sY hf hs rfl rfl rfl (Y_assign rfl rfl) ?_; clear hf; intro a hf
          refine wpO_nil ?_
          obtain rfl := Option.some.inj hm20
          try dsimp only at hm
          obtain rfl := Option.some.inj hm
          refine wpL_ret (Qb_ret (Ql_ret (Qb_ret (ret_tmp rfl hf rfl ?_))))
          exact ⟨_, rfl, rfl, hs⟩
        · have hm20 := bif_f hm20 hb25
          refine wpL_skip ?_
          refine wpL_region ?_
          refine sY hf hs rfl rfl rfl (Y_move rfl rfl) ?_; clear hf; intro a hf
          refine sY hf hs rfl rfl rfl (Y_add rfl rfl rfl) ?_; clear hf; intro a hf
          refine sY hf hs rfl rfl rfl (Y_assign rfl rfl) ?_; clear hf; intro a hf
          refine wpO_nil ?_
          refine wpL_nil (Qb_normal ?_)
          refine wpL_region ?_
          refine sY hf hs rfl rfl rfl (Y_move rfl rfl) ?_; clear hf; intro a hf
          refine sY hf hs rfl rfl rfl (Y_add rfl rfl rfl) ?_; clear hf; intro a hf
          refine sY hf hs rfl rfl rfl (Y_assign rfl rfl) ?_; clear hf; intro a hf
          refine wpO_nil ?_
          refine wpL_nil (Ql_normal ?_)
          exact ⟨(IntKind.i64.wrap (x11 + 1)), (IntKind.i64.wrap (x12 + 1)), hm20, (Fr.pick (Fr.pick (Fr.pick hf.none hf rfl) hf rfl) hf rfl), hs⟩
      · have hm20 := bif_f hm20 hb22
        refine wpL_exit (Ql_exit (Qb_exit ?_))
        exact ⟨x11, Option.some.inj hm20, (Fr.pick hf.none hf rfl), hs⟩
  · rintro a w ⟨x17, hr_, hf, hs⟩
    subst hr_
    try dsimp only at hm
    refine wpL_seq ?_
    refine wpL_region ?_
    refine sY hf hs rfl rfl rfl (Y_move rfl rfl) ?_; clear hf; intro a hf
    refine sY hf hs rfl rfl rfl (Y_assign rfl rfl) ?_; clear hf; intro a hf
    refine wpO_nil ?_
    obtain rfl := Option.some.inj hm
    refine wpL_ret (ret_tmp rfl hf rfl ?_)
    exact ⟨_, rfl, rfl, hs⟩

end Go.Proofs.Ytmijmamolmoheaa
