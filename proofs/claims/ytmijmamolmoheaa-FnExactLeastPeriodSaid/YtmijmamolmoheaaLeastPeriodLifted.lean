/- The functions do what their models say. -/
import Derived.Test.YtmijmamolmoheaaLeastPeriodLifted1
import Derived.Test.YtmijmamolmoheaaRows
namespace Go.Proofs.Ytmijmamolmoheaa
open Go.RowKit

set_option maxRecDepth 100000 in
theorem impl_betterCircuit_ok (F : Nat) (p0 : GEventGraph) (A_p0_1 : Option Addr) (n_p0_1 c_p0_1 : Nat) (hn_p0_1 : n_p0_1 = p0.Places.length) (p1 : GRatio) (r : List Int) (W : World) (hm : impl_betterCircuit F p0 p1 = some r) (h_p0_1 : Rd W A_p0_1 ((recs GPlace.cells) p0.Places)) :
    Calls Try.prog 77 [.agg #[.int .i64 p0.Events, .slice A_p0_1 n_p0_1 c_p0_1], .agg #[.int .i64 p1.Num, .int .i64 p1.Den]].toArray W fun e w' => ∃ v, e = .returned v ∧ ∃ A663, ∃ n664, ∃ c665, v = .slice A663 n664 c665 ∧ n664 = r.length ∧ (r = [] → A663 = none) ∧ St [] W w' [.row A663 n664 c665 2 1 (ints r)] := by
  subst hn_p0_1
  unfold impl_betterCircuit at hm
  refine Calls.enter (N := 101) Try.func77 rfl rfl rfl (fun a hf => ?_)
  have hs := St.start W
  obtain ⟨w, hw_⟩ : ∃ w, w = W := ⟨W, rfl⟩
  clear hw_ w
  refine wpL_seq ?_
  refine wpL_region ?_
  refine sBox hf hs rfl rfl rfl rfl rfl (cs := [.int .i64 p0.Events, .slice A_p0_1 p0.Places.length c_p0_1]) rfl ?_; clear hf hs; intro a w b1 hs hf
  have hs : St [] W w [.blk b1 30 [.int .i64 p0.Events, .slice A_p0_1 p0.Places.length c_p0_1]] := hs
  refine sBox hf hs rfl rfl rfl rfl rfl (cs := [.int .i64 p1.Num, .int .i64 p1.Den]) rfl ?_; clear hf hs; intro a w b2 hs hf
  have hs : St [] W w [.blk b1 30 [.int .i64 p0.Events, .slice A_p0_1 p0.Places.length c_p0_1], .blk b2 84 [.int .i64 p1.Num, .int .i64 p1.Den]] := hs
  refine sY hf hs rfl rfl rfl (Y_assign rfl rfl) ?_; clear hf; intro a hf
  refine wpO_nil ?_
  refine wpL_seq ?_
  refine wpL_region ?_
  refine sY hf hs rfl rfl rfl (Y_fieldAddr rfl rfl fo30_0) ?_; clear hf; intro a hf
  refine sY hf hs rfl rfl rfl (Y_load_blk rfl rfl (i := 0) rfl rfl ag2) ?_; clear hf; intro a hf
  obtain ⟨xs5, hk4, hm⟩ := bind_some hm
  refine sMakeL (enc := ints) hf hs rfl rfl rfl rfl rfl hk4 el36 ti2 rfl ints_made ?_; clear hf hs; intro a w A3 hs hf
  have hs : St [] W w [.blk b1 30 [.int .i64 p0.Events, .slice A_p0_1 p0.Places.length c_p0_1], .blk b2 84 [.int .i64 p1.Num, .int .i64 p1.Den], .row A3 xs5.length xs5.length 2 1 (ints xs5)] := hs
  refine sY hf hs rfl rfl rfl (Y_assign rfl rfl) ?_; clear hf; intro a hf
  refine wpO_nil ?_
  refine wpL_seq ?_
  refine wpL_region ?_
  refine sY hf hs rfl rfl rfl (Y_fieldAddr rfl rfl fo30_0) ?_; clear hf; intro a hf
  refine sY hf hs rfl rfl rfl (Y_load_blk rfl rfl (i := 0) rfl rfl ag2) ?_; clear hf; intro a hf
  obtain ⟨xs8, hk7, hm⟩ := bind_some hm
  refine sMakeL (enc := ints) hf hs rfl rfl rfl rfl rfl hk7 el36 ti2 rfl ints_made ?_; clear hf hs; intro a w A6 hs hf
  have hs : St [] W w [.blk b1 30 [.int .i64 p0.Events, .slice A_p0_1 p0.Places.length c_p0_1], .blk b2 84 [.int .i64 p1.Num, .int .i64 p1.Den], .row A3 xs5.length xs5.length 2 1 (ints xs5), .row A6 xs8.length xs8.length 2 1 (ints xs8)] := hs
  refine sY hf hs rfl rfl rfl (Y_assign rfl rfl) ?_; clear hf; intro a hf
  refine wpO_nil ?_
  refine wpL_seq ?_
  refine wpL_region ?_
  refine sY hf hs rfl rfl rfl (Y_assign rfl rfl) ?_; clear hf; intro a hf
  refine wpO_nil ?_
  refine wpL_seq ?_
  refine wpL_seq ?_
  refine wpL_region ?_
  refine sY hf hs rfl rfl rfl (Y_fieldAddr rfl rfl fo30_0) ?_; clear hf; intro a hf
  refine sY hf hs rfl rfl rfl (Y_load_blk rfl rfl (i := 0) rfl rfl ag2) ?_; clear hf; intro a hf
  refine sY hf hs rfl rfl rfl (Y_add rfl rfl rfl) ?_; clear hf; intro a hf
  refine sY hf hs rfl rfl rfl (Y_move rfl rfl) ?_; clear hf; intro a hf
  refine wpO_nil ?_
  obtain ⟨r417, hl418, hm⟩ := bind_some hm
  refine wpL_block (fun a w => ∃ xs414 : List Int, ∃ x416 : Int, Sum.inr (xs414, x416) = r417 ∧ xs8.length = xs414.length ∧ Fr a 101 [(2, .pointer (some ⟨b1, 0, none⟩)), (6, .slice A6 xs8.length xs8.length), (7, .int .i64 x416)] ∧ St [] W w [.blk b1 30 [.int .i64 p0.Events, .slice A_p0_1 p0.Places.length c_p0_1], .row A6 xs8.length xs8.length 2 1 (ints xs414)]) ?_ ?_
  · refine wpL_loop (fun n a w => ∃ xs277 : List Int, ∃ xs279 : List Int, ∃ x281 : Int, ∃ x282 : Int, impl_betterCircuit_L4 F p0 p1 n xs277 xs279 x281 x282 = some r417 ∧ xs5.length = xs277.length ∧ xs8.length = xs279.length ∧ Fr a 101 [(2, .pointer (some ⟨b1, 0, none⟩)), (3, .pointer (some ⟨b2, 0, none⟩)), (5, .slice A3 xs5.length xs5.length), (6, .slice A6 xs8.length xs8.length), (7, .int .i64 x281), (21, .int .i64 (IntKind.i64.wrap (p0.Events + 1))), (22, .int .i64 x282)] ∧ St [] W w [.blk b1 30 [.int .i64 p0.Events, .slice A_p0_1 p0.Places.length c_p0_1], .blk b2 84 [.int .i64 p1.Num, .int .i64 p1.Den], .row A3 xs5.length xs5.length 2 1 (ints xs277), .row A6 xs8.length xs8.length 2 1 (ints xs279)]) F ?_ ?_ ?_
    · exact ⟨xs5, xs8, (-1), 0, hl418, rfl, rfl, (Fr.pick (Fr.pick (Fr.pick (Fr.pick (Fr.pick (Fr.pick (Fr.pick hf.none hf rfl) hf rfl) hf rfl) hf rfl) hf rfl) hf rfl) hf rfl), hs⟩
    · rintro a w ⟨xs277, xs279, x281, x282, h0_, -, -, -, -⟩; simp [impl_betterCircuit_L4] at h0_
    · rintro n420 a w ⟨xs277, xs279, x281, x282, hm419, hn278, hn280, hf, hs⟩
      rw [impl_betterCircuit_L4] at hm419
      refine wpL_seq ?_
      refine wpL_region ?_
      refine sY hf hs rfl rfl rfl (Y_lss rfl rfl rfl) ?_; clear hf; intro a hf
      refine wpO_nil ?_
      refine wpL_seq ?_
      refine wpL_cond hf rfl (fun hb421 => ?_) (fun hb421 => ?_)
      · have hm419 := bif_t hm419 hb421
        refine wpL_skip ?_
        refine wpL_seq ?_
        refine wpL_block0 ?_
        refine wpL_seq ?_
        refine wpL_region ?_
        refine sY hf hs rfl rfl rfl (Y_assign rfl rfl) ?_; clear hf; intro a hf
        refine wpO_nil ?_
        refine wpL_seq ?_
        refine wpL_seq ?_
        refine wpL_region ?_
        refine sY hf hs rfl rfl rfl (Y_fieldAddr rfl rfl fo30_1) ?_; clear hf; intro a hf
        refine sY hf hs rfl rfl rfl (Y_load_blk rfl rfl (i := 0) rfl rfl ag28) ?_; clear hf; intro a hf
        refine sY hf hs rfl rfl rfl (Y_lenH rfl rfl el28 rfl) ?_; clear hf; intro a hf
        refine sY hf hs rfl rfl rfl (Y_move rfl rfl) ?_; clear hf; intro a hf
        refine wpO_nil ?_
        obtain ⟨r520, hl521, hm419⟩ := bind_some hm419
        refine wpL_block (fun a w => ∃ xs515 : List Int, ∃ xs517 : List Int, ∃ x519 : Int, (xs515, xs517, x519) = r520 ∧ xs5.length = xs515.length ∧ xs8.length = xs517.length ∧ Fr a 101 [(2, .pointer (some ⟨b1, 0, none⟩)), (3, .pointer (some ⟨b2, 0, none⟩)), (5, .slice A3 xs5.length xs5.length), (6, .slice A6 xs8.length xs8.length), (7, .int .i64 x519), (21, .int .i64 (IntKind.i64.wrap (p0.Events + 1))), (22, .int .i64 x282)] ∧ St [] W w [.blk b1 30 [.int .i64 p0.Events, .slice A_p0_1 p0.Places.length c_p0_1], .blk b2 84 [.int .i64 p1.Num, .int .i64 p1.Den], .row A3 xs5.length xs5.length 2 1 (ints xs515), .row A6 xs8.length xs8.length 2 1 (ints xs517)]) ?_ ?_
        · refine wpL_loop (fun n a w => ∃ xs482 : List Int, ∃ xs484 : List Int, ∃ x486 : Int, ∃ x487 : Int, impl_betterCircuit_L5 F p0 p1 n xs482 xs484 x486 x487 = some r520 ∧ xs5.length = xs482.length ∧ xs8.length = xs484.length ∧ Fr a 101 [(2, .pointer (some ⟨b1, 0, none⟩)), (3, .pointer (some ⟨b2, 0, none⟩)), (5, .slice A3 xs5.length xs5.length), (6, .slice A6 xs8.length xs8.length), (7, .int .i64 x486), (21, .int .i64 (IntKind.i64.wrap (p0.Events + 1))), (22, .int .i64 x282), (25, .slice A_p0_1 p0.Places.length c_p0_1), (26, .int .i64 (p0.Places.length : Int)), (27, .int .i64 x487)] ∧ St [] W w [.blk b1 30 [.int .i64 p0.Events, .slice A_p0_1 p0.Places.length c_p0_1], .blk b2 84 [.int .i64 p1.Num, .int .i64 p1.Den], .row A3 xs5.length xs5.length 2 1 (ints xs482), .row A6 xs8.length xs8.length 2 1 (ints xs484)]) F ?_ ?_ ?_
          · exact ⟨xs277, xs279, (-1), 0, hl521, hn278, hn280, (Fr.pick (Fr.pick (Fr.pick (Fr.pick (Fr.pick (Fr.pick (Fr.pick (Fr.pick (Fr.pick (Fr.pick hf.none hf rfl) hf rfl) hf rfl) hf rfl) hf rfl) hf rfl) hf rfl) hf rfl) hf rfl) hf rfl), hs⟩
          · rintro a w ⟨xs482, xs484, x486, x487, h0_, -, -, -, -⟩; simp [impl_betterCircuit_L5] at h0_
          · rintro n523 a w ⟨xs482, xs484, x486, x487, hm522, hn483, hn485, hf, hs⟩
            rw [impl_betterCircuit_L5] at hm522
            refine wpL_seq ?_
            refine wpL_region ?_
            refine sY hf hs rfl rfl rfl (Y_lss rfl rfl rfl) ?_; clear hf; intro a hf
            refine wpO_nil ?_
            refine wpL_seq ?_
            refine wpL_cond hf rfl (fun hb524 => ?_) (fun hb524 => ?_)
            · have hm522 := bif_t hm522 hb524
              refine wpL_skip ?_
              refine wpL_seq ?_
              refine wpL_block0 ?_
              refine wpL_seq ?_
              refine wpL_region ?_
              refine sY hf hs rfl rfl rfl (Y_move rfl rfl) ?_; clear hf; intro a hf
              obtain ⟨q525, hi526, hm522⟩ := bind_some hm522
              obtain ⟨hi526a, hi526b, hi526q⟩ := idx_some hi526
              refine sY hf hs rfl rfl rfl (Y_index rfl rfl rfl el28 ti120 (Rd.isAt (h_p0_1.at hs) (recs_at (s := 4) GPlace.len hi526q (j := 0) rfl)) hi526a hi526b) ?_; clear hf; intro a hf
              refine sY hf hs rfl rfl rfl (Y_load_rdS rfl rfl (us := [.int .i64 q525.From, .int .i64 q525.To, .int .i64 q525.Delay, .int .i64 q525.Tokens]) (fun w hs => h_p0_1.at hs) (fun j u hj => recs_at (s := 4) GPlace.len hi526q hj) (Nat.succ_pos _) ag120 ti120 rfl) ?_; clear hf; intro a hf
              refine sAlloc hf hs rfl rfl rfl rfl ti120 ?_; clear hf hs; intro a w b527 hs hf
              have hs : St [] W w [.blk b1 30 [.int .i64 p0.Events, .slice A_p0_1 p0.Places.length c_p0_1], .blk b2 84 [.int .i64 p1.Num, .int .i64 p1.Den], .row A3 xs5.length xs5.length 2 1 (ints xs482), .row A6 xs8.length xs8.length 2 1 (ints xs484), .blk b527 120 [.int .i64 0, .int .i64 0, .int .i64 0, .int .i64 0]] := hs
              refine sY hf hs rfl rfl rfl (Y_assign rfl rfl) ?_; clear hf; intro a hf
              refine sStore (i := 4) (us := [.int .i64 q525.From, .int .i64 q525.To, .int .i64 q525.Delay, .int .i64 q525.Tokens]) hf hs rfl rfl rfl rfl rfl rfl ti120 rfl rfl rfl (Nat.le_of_ble_eq_true rfl) rfl ?_; clear hs; intro w hs
              have hs : St [] W w [.blk b1 30 [.int .i64 p0.Events, .slice A_p0_1 p0.Places.length c_p0_1], .blk b2 84 [.int .i64 p1.Num, .int .i64 p1.Den], .row A3 xs5.length xs5.length 2 1 (ints xs482), .row A6 xs8.length xs8.length 2 1 (ints xs484), .blk b527 120 [.int .i64 q525.From, .int .i64 q525.To, .int .i64 q525.Delay, .int .i64 q525.Tokens]] := hs
              refine wpO_nil ?_
              refine wpL_seq ?_
              refine wpL_draw (by kernel_rfl) (by kernel_rfl) hs ?_
              refine qY hf rfl rfl rfl (Y_move rfl rfl) ?_; clear hf; intro a hf
              refine qY hf rfl rfl rfl (Y_fieldAddr rfl rfl fo120_0) ?_; clear hf; intro a hf
              refine qY hf rfl rfl rfl (Y_load_blk rfl rfl (i := 4) rfl rfl ag2) ?_; clear hf; intro a hf
              obtain ⟨q528, hi529, hm522⟩ := bind_some hm522
              obtain ⟨hi529a, hi529b, hi529q⟩ := idx_some hi529
              refine qY hf rfl rfl rfl (Y_index rfl rfl rfl el36 ti2 (Rd.isAt (hs.rd (i := 2) rfl) (at1 (ints_at hi529q))) hi529a (ltn hn483 hi529b)) ?_; clear hf; intro a hf
              refine qY hf rfl rfl rfl (Y_load_rd rfl rfl (fun w hs => hs.rd (i := 2) rfl) (at1 (ints_at hi529q)) ag2) ?_; clear hf; intro a hf
              refine qY hf rfl rfl rfl (Y_load_blkS rfl rfl (i := 4) rfl ag120 ti120 rfl) ?_; clear hf; intro a hf
              refine qY hf rfl rfl rfl (Y_load_blkS rfl rfl (i := 1) rfl ag84 ti84 rfl) ?_; clear hf; intro a hf
              obtain ⟨r530, hc531, hm522⟩ := bind_some hm522
              refine qCall hf rfl rfl rfl rfl (cap := []) rfl rfl en127 (v := .int .i64 r530) (fun w hs => Calls.scal (impl_placeWeight_ok F q525 p1 _ _ hc531)) ?_; clear hf; intro a hf
              refine qY hf rfl rfl rfl (Y_add rfl rfl rfl) ?_; clear hf; intro a hf
              refine qY hf rfl rfl rfl (Y_assign rfl rfl) ?_; clear hf; intro a hf
              refine qNil ?_; clear hs; intro w hs
              refine wpL_seq ?_
              refine wpL_region ?_
              refine sY hf hs rfl rfl rfl (Y_move rfl rfl) ?_; clear hf; intro a hf
              refine sY hf hs rfl rfl rfl (Y_move rfl rfl) ?_; clear hf; intro a hf
              refine sY hf hs rfl rfl rfl (Y_fieldAddr rfl rfl fo120_1) ?_; clear hf; intro a hf
              refine sY hf hs rfl rfl rfl (Y_load_blk rfl rfl (i := 4) rfl rfl ag2) ?_; clear hf; intro a hf
              obtain ⟨q532, hi533, hm522⟩ := bind_some hm522
              obtain ⟨hi533a, hi533b, hi533q⟩ := idx_some hi533
              refine sY hf hs rfl rfl rfl (Y_index rfl rfl rfl el36 ti2 (Rd.isAt (hs.rd (i := 2) rfl) (at1 (ints_at hi533q))) hi533a (ltn hn483 hi533b)) ?_; clear hf; intro a hf
              refine sY hf hs rfl rfl rfl (Y_load_rd rfl rfl (fun w hs => hs.rd (i := 2) rfl) (at1 (ints_at hi533q)) ag2) ?_; clear hf; intro a hf
              refine sY hf hs rfl rfl rfl (Y_gtr rfl rfl rfl) ?_; clear hf; intro a hf
              refine wpO_nil ?_
              refine wpL_cond hf rfl (fun hb534 => ?_) (fun hb534 => ?_)
              · have hm522 := bif_t hm522 hb534
                refine wpL_drawM [.blk b1 30 [.int .i64 p0.Events, .slice A_p0_1 p0.Places.length c_p0_1], .blk b2 84 [.int .i64 p1.Num, .int .i64 p1.Den], .blk b527 120 [.int .i64 q525.From, .int .i64 q525.To, .int .i64 q525.Delay, .int .i64 q525.Tokens]] [] (by kernel_rfl) hs ?_; clear hs; intro w hs
                have hs0 : St [] W w [.blk b1 30 [.int .i64 p0.Events, .slice A_p0_1 p0.Places.length c_p0_1], .blk b2 84 [.int .i64 p1.Num, .int .i64 p1.Den], .blk b527 120 [.int .i64 q525.From, .int .i64 q525.To, .int .i64 q525.Delay, .int .i64 q525.Tokens]] := hs.sel [0, 1, 4] (by decide)
                refine mYp (i := 0) rfl (by kernel_rfl) (by kernel_rfl) hf rfl rfl rfl (fun _ => Y_move rfl rfl) ?_; clear hf; intro a hf
                refine mYp (i := 1) rfl (by kernel_rfl) (by kernel_rfl) hf rfl rfl rfl (fun _ => Y_fieldAddr rfl rfl fo120_1) ?_; clear hf; intro a hf
                refine mY (i := 2) [] rfl (by kernel_rfl) (by kernel_rfl) hf hs0 rfl rfl rfl (Y_load_blk rfl rfl (i := 2) rfl rfl ag2) ?_; clear hf; intro a hf
                refine mYp (i := 3) rfl (by kernel_rfl) (by kernel_rfl) hf rfl rfl rfl (fun _ => Y_move rfl rfl) ?_; clear hf; intro a hf
                refine mYp (i := 4) rfl (by kernel_rfl) (by kernel_rfl) hf rfl rfl rfl (fun _ => Y_fieldAddr rfl rfl fo120_1) ?_; clear hf; intro a hf
                refine mY (i := 5) [] rfl (by kernel_rfl) (by kernel_rfl) hf hs0 rfl rfl rfl (Y_load_blk rfl rfl (i := 2) rfl rfl ag2) ?_; clear hf; intro a hf
                refine mYp (i := 6) rfl (by kernel_rfl) (by kernel_rfl) hf rfl rfl rfl (fun _ => Y_move rfl rfl) ?_; clear hf; intro a hf
                refine mYp (i := 7) rfl (by kernel_rfl) (by kernel_rfl) hf rfl rfl rfl (fun _ => Y_move rfl rfl) ?_; clear hf; intro a hf
                refine mYp (i := 8) rfl (by kernel_rfl) (by kernel_rfl) hf rfl rfl rfl (fun _ => Y_fieldAddr rfl rfl fo120_1) ?_; clear hf; intro a hf
                refine mY (i := 9) [] rfl (by kernel_rfl) (by kernel_rfl) hf hs0 rfl rfl rfl (Y_load_blk rfl rfl (i := 2) rfl rfl ag2) ?_; clear hf; intro a hf
                obtain ⟨q543, hi544, hm522⟩ := bind_some hm522
                obtain ⟨hi544a, hi544b, hi544q⟩ := idx_some hi544
                refine mYp (i := 10) rfl (by kernel_rfl) (by kernel_rfl) hf rfl rfl rfl (fun _ => Y_index rfl rfl rfl el36 ti2 (Rd.isAt (hs.rd (i := 2) rfl) (at1 (ints_at hi544q))) hi544a (ltn hn483 hi544b)) ?_; clear hf; intro a hf
                refine mRun (i := 11) rfl (by kernel_rfl) ?_
                obtain ⟨xs545, hu546, hm522⟩ := bind_some hm522
                refine sStoreL (i := 2) (us := [.int .i64 (IntKind.i64.wrap (q528 + r530))]) (enc := ints) hf hs rfl rfl rfl rfl rfl rfl hn483 hu546 ti2 rfl rfl rfl rfl rfl ints_len1 (ints_set (IntKind.i64.wrap (q528 + r530))) ?_; clear hs; intro w hs
                have hs : St [] W w [.blk b1 30 [.int .i64 p0.Events, .slice A_p0_1 p0.Places.length c_p0_1], .blk b2 84 [.int .i64 p1.Num, .int .i64 p1.Den], .row A3 xs5.length xs5.length 2 1 (ints xs545), .row A6 xs8.length xs8.length 2 1 (ints xs484), .blk b527 120 [.int .i64 q525.From, .int .i64 q525.To, .int .i64 q525.Delay, .int .i64 q525.Tokens]] := hs
                have hs0 : St [] W w [.blk b1 30 [.int .i64 p0.Events, .slice A_p0_1 p0.Places.length c_p0_1], .blk b2 84 [.int .i64 p1.Num, .int .i64 p1.Den], .blk b527 120 [.int .i64 q525.From, .int .i64 q525.To, .int .i64 q525.Delay, .int .i64 q525.Tokens]] := hs.sel [0, 1, 4] (by decide)
                refine wpO_nil ⟨Or.inr (fun _ => hs0), ?_⟩
                obtain ⟨q547, hi548, hm522⟩ := bind_some hm522
                obtain ⟨hi548a, hi548b, hi548q⟩ := idx_some hi548
                refine mYp (i := 12) rfl (by kernel_rfl) (by kernel_rfl) hf rfl rfl rfl (fun _ => Y_index rfl rfl rfl el36 ti2 (Rd.isAt (hs.rd (i := 3) rfl) (at1 (ints_at hi548q))) hi548a (ltn hn485 hi548b)) ?_; clear hf; intro a hf
                refine mRun (i := 13) rfl (by kernel_rfl) ?_
                obtain ⟨xs549, hu550, hm522⟩ := bind_some hm522
                refine sStoreL (i := 3) (us := [.int .i64 x487]) (enc := ints) hf hs rfl rfl rfl rfl rfl rfl hn485 hu550 ti2 rfl rfl rfl rfl rfl ints_len1 (ints_set x487) ?_; clear hs; intro w hs
                have hs : St [] W w [.blk b1 30 [.int .i64 p0.Events, .slice A_p0_1 p0.Places.length c_p0_1], .blk b2 84 [.int .i64 p1.Num, .int .i64 p1.Den], .row A3 xs5.length xs5.length 2 1 (ints xs545), .row A6 xs8.length xs8.length 2 1 (ints xs549), .blk b527 120 [.int .i64 q525.From, .int .i64 q525.To, .int .i64 q525.Delay, .int .i64 q525.Tokens]] := hs
                have hs0 : St [] W w [.blk b1 30 [.int .i64 p0.Events, .slice A_p0_1 p0.Places.length c_p0_1], .blk b2 84 [.int .i64 p1.Num, .int .i64 p1.Den], .blk b527 120 [.int .i64 q525.From, .int .i64 q525.To, .int .i64 q525.Delay, .int .i64 q525.Tokens]] := hs.sel [0, 1, 4] (by decide)
                refine wpO_nil ⟨Or.inr (fun _ => hs0), ?_⟩
                refine mYp (i := 14) rfl (by kernel_rfl) (by kernel_rfl) hf rfl rfl rfl (fun _ => Y_assign rfl rfl) ?_; clear hf; intro a hf
                refine mDone (by kernel_rfl) ?_
                clear hs0
                refine wpL_nil (Qb_normal ?_)
                refine wpL_region ?_
                refine sY hf hs rfl rfl rfl (Y_add rfl rfl rfl) ?_; clear hf; intro a hf
                refine sY hf hs rfl rfl rfl (Y_move rfl rfl) ?_; clear hf; intro a hf
                refine wpO_nil ?_
                refine wpL_nil (Ql_normal ?_)
                exact ⟨xs545, xs549, q525.To, (IntKind.i64.wrap (x487 + 1)), hm522, ((hn483).trans (upd_len hu546).symm), ((hn485).trans (upd_len hu550).symm), (Fr.pick (Fr.pick (Fr.pick (Fr.pick (Fr.pick (Fr.pick (Fr.pick (Fr.pick (Fr.pick (Fr.pick hf.none hf rfl) hf rfl) hf rfl) hf rfl) hf rfl) hf rfl) hf rfl) hf rfl) hf rfl) hf rfl), hs.sel [0, 1, 2, 3] (by decide)⟩
              · have hm522 := bif_f hm522 hb534
                refine wpL_skip ?_
                refine wpL_nil (Qb_normal ?_)
                refine wpL_region ?_
                refine sY hf hs rfl rfl rfl (Y_add rfl rfl rfl) ?_; clear hf; intro a hf
                refine sY hf hs rfl rfl rfl (Y_move rfl rfl) ?_; clear hf; intro a hf
                refine wpO_nil ?_
                refine wpL_nil (Ql_normal ?_)
                exact ⟨xs482, xs484, x486, (IntKind.i64.wrap (x487 + 1)), hm522, hn483, hn485, (Fr.pick (Fr.pick (Fr.pick (Fr.pick (Fr.pick (Fr.pick (Fr.pick (Fr.pick (Fr.pick (Fr.pick hf.none hf rfl) hf rfl) hf rfl) hf rfl) hf rfl) hf rfl) hf rfl) hf rfl) hf rfl) hf rfl), hs.sel [0, 1, 2, 3] (by decide)⟩
            · have hm522 := bif_f hm522 hb524
              refine wpL_exit (Ql_exit (Qb_exit ?_))
              exact ⟨xs482, xs484, x486, Option.some.inj hm522, hn483, hn485, (Fr.pick (Fr.pick (Fr.pick (Fr.pick (Fr.pick (Fr.pick (Fr.pick hf.none hf rfl) hf rfl) hf rfl) hf rfl) hf rfl) hf rfl) hf rfl), hs⟩
        · rintro a w ⟨xs515, xs517, x519, hr_, hn516, hn518, hf, hs⟩
          subst hr_
          try dsimp only at hm419
          refine wpL_seq ?_
          refine wpL_region ?_
          refine sY hf hs rfl rfl rfl (Y_move rfl rfl) ?_; clear hf; intro a hf
          refine sY hf hs rfl rfl rfl (Y_lss rfl rfl rfl) ?_; clear hf; intro a hf
          refine wpO_nil ?_
          refine wpL_cond hf rfl (fun hb551 => ?_) (fun hb551 => ?_)
          · have hm419 := bif_t hm419 hb551
            refine wpL_seq ?_
            refine wpL_region ?_
            refine sY hf hs rfl rfl rfl (Y_assign rfl rfl) ?_; clear hf; intro a hf
            refine wpO_nil ?_
            have hs : St [] W _ [.blk b1 30 [.int .i64 p0.Events, .slice A_p0_1 p0.Places.length c_p0_1], .blk b2 84 [.int .i64 p1.Num, .int .i64 p1.Den], .row A3 xs5.length xs5.length 2 1 (ints xs515), .row A6 xs8.length xs8.length 2 1 (ints xs517), .row none 0 0 2 1 (ints ([] : List Int))] := hs.addNil 2 1
            obtain rfl := Option.some.inj hm419
            try dsimp only at hm
            obtain rfl := Option.some.inj hm
            refine wpL_ret (Qb_ret (Ql_ret (Qb_ret (ret_tmp rfl hf rfl ?_))))
            exact ⟨_, rfl, none, 0, 0, rfl, rfl, (fun _ => rfl), hs.sel [4] (by decide)⟩
          · have hm419 := bif_f hm419 hb551
            refine wpL_skip ?_
            refine wpL_nil (Qb_normal ?_)
            refine wpL_region ?_
            refine sY hf hs rfl rfl rfl (Y_add rfl rfl rfl) ?_; clear hf; intro a hf
            refine sY hf hs rfl rfl rfl (Y_move rfl rfl) ?_; clear hf; intro a hf
            refine wpO_nil ?_
            refine wpL_nil (Ql_normal ?_)
            exact ⟨xs515, xs517, x519, (IntKind.i64.wrap (x282 + 1)), hm419, hn516, hn518, (Fr.pick (Fr.pick (Fr.pick (Fr.pick (Fr.pick (Fr.pick (Fr.pick hf.none hf rfl) hf rfl) hf rfl) hf rfl) hf rfl) hf rfl) hf rfl), hs⟩
      · have hm419 := bif_f hm419 hb421
        refine wpL_exit (Ql_exit (Qb_exit ?_))
        exact ⟨xs279, x281, Option.some.inj hm419, hn280, (Fr.pick (Fr.pick (Fr.pick hf.none hf rfl) hf rfl) hf rfl), hs.sel [0, 3] (by decide)⟩
  · rintro a w ⟨xs414, x416, hr_, hn415, hf, hs⟩
    subst hr_
    try dsimp only at hm
    refine wpL_seq ?_
    refine wpL_seq ?_
    refine wpL_region ?_
    refine sY hf hs rfl rfl rfl (Y_fieldAddr rfl rfl fo30_0) ?_; clear hf; intro a hf
    refine sY hf hs rfl rfl rfl (Y_load_blk rfl rfl (i := 0) rfl rfl ag2) ?_; clear hf; intro a hf
    refine sY hf hs rfl rfl rfl (Y_move rfl rfl) ?_; clear hf; intro a hf
    refine wpO_nil ?_
    obtain ⟨r573, hl574, hm⟩ := bind_some hm
    refine wpL_block (fun a w => ∃ x572 : Int, x572 = r573 ∧ Fr a 101 [(2, .pointer (some ⟨b1, 0, none⟩)), (6, .slice A6 xs8.length xs8.length), (7, .int .i64 x572)] ∧ St [] W w [.blk b1 30 [.int .i64 p0.Events, .slice A_p0_1 p0.Places.length c_p0_1], .row A6 xs8.length xs8.length 2 1 (ints xs414)]) ?_ ?_
    · refine wpL_loop (fun n a w => ∃ x565 : Int, ∃ x566 : Int, impl_betterCircuit_L6 F p0 xs414 n x565 x566 = some r573 ∧ Fr a 101 [(2, .pointer (some ⟨b1, 0, none⟩)), (6, .slice A6 xs8.length xs8.length), (7, .int .i64 x565), (65, .int .i64 p0.Events), (66, .int .i64 x566)] ∧ St [] W w [.blk b1 30 [.int .i64 p0.Events, .slice A_p0_1 p0.Places.length c_p0_1], .row A6 xs8.length xs8.length 2 1 (ints xs414)]) F ?_ ?_ ?_
      · exact ⟨x416, 0, hl574, (Fr.pick (Fr.pick (Fr.pick (Fr.pick (Fr.pick hf.none hf rfl) hf rfl) hf rfl) hf rfl) hf rfl), hs⟩
      · rintro a w ⟨x565, x566, h0_, -, -⟩; simp [impl_betterCircuit_L6] at h0_
      · rintro n576 a w ⟨x565, x566, hm575, hf, hs⟩
        rw [impl_betterCircuit_L6] at hm575
        refine wpL_seq ?_
        refine wpL_region ?_
        refine sY hf hs rfl rfl rfl (Y_lss rfl rfl rfl) ?_; clear hf; intro a hf
        refine wpO_nil ?_
        refine wpL_seq ?_
        refine wpL_cond hf rfl (fun hb577 => ?_) (fun hb577 => ?_)
        · have hm575 := bif_t hm575 hb577
          refine wpL_skip ?_
          refine wpL_seq ?_
          refine wpL_block0 ?_
          refine wpL_draw (by kernel_rfl) (by kernel_rfl) hs ?_
          refine qY hf rfl rfl rfl (Y_fieldAddr rfl rfl fo30_1) ?_; clear hf; intro a hf
          refine qY hf rfl rfl rfl (Y_load_blk rfl rfl (i := 0) rfl rfl ag28) ?_; clear hf; intro a hf
          refine qY hf rfl rfl rfl (Y_move rfl rfl) ?_; clear hf; intro a hf
          refine qY hf rfl rfl rfl (Y_move rfl rfl) ?_; clear hf; intro a hf
          obtain ⟨q578, hi579, hm575⟩ := bind_some hm575
          obtain ⟨hi579a, hi579b, hi579q⟩ := idx_some hi579
          refine qY hf rfl rfl rfl (Y_index rfl rfl rfl el36 ti2 (Rd.isAt (hs.rd (i := 1) rfl) (at1 (ints_at hi579q))) hi579a (ltn hn415 hi579b)) ?_; clear hf; intro a hf
          refine qY hf rfl rfl rfl (Y_load_rd rfl rfl (fun w hs => hs.rd (i := 1) rfl) (at1 (ints_at hi579q)) ag2) ?_; clear hf; intro a hf
          obtain ⟨q580, hi581, hm575⟩ := bind_some hm575
          obtain ⟨hi581a, hi581b, hi581q⟩ := idx_some hi581
          refine qY hf rfl rfl rfl (Y_index rfl rfl rfl el28 ti120 (Rd.isAt (h_p0_1.at hs) (recs_at (s := 4) GPlace.len hi581q (j := 0) rfl)) hi581a hi581b) ?_; clear hf; intro a hf
          refine qY hf rfl rfl rfl (Y_fieldAddrE rfl rfl fo120_0) ?_; clear hf; intro a hf
          refine qY hf rfl rfl rfl (Y_load_rd rfl rfl (fun w hs => h_p0_1.at hs) (recs_at (s := 4) GPlace.len hi581q (j := 0) rfl) ag2) ?_; clear hf; intro a hf
          refine qY hf rfl rfl rfl (Y_assign rfl rfl) ?_; clear hf; intro a hf
          refine qNil ?_; clear hs; intro w hs
          refine wpL_nil (Qb_normal ?_)
          refine wpL_region ?_
          refine sY hf hs rfl rfl rfl (Y_add rfl rfl rfl) ?_; clear hf; intro a hf
          refine sY hf hs rfl rfl rfl (Y_move rfl rfl) ?_; clear hf; intro a hf
          refine wpO_nil ?_
          refine wpL_nil (Ql_normal ?_)
          exact ⟨q580.From, (IntKind.i64.wrap (x566 + 1)), hm575, (Fr.pick (Fr.pick (Fr.pick (Fr.pick (Fr.pick hf.none hf rfl) hf rfl) hf rfl) hf rfl) hf rfl), hs⟩
        · have hm575 := bif_f hm575 hb577
          refine wpL_exit (Ql_exit (Qb_exit ?_))
          exact ⟨x565, Option.some.inj hm575, (Fr.pick (Fr.pick (Fr.pick hf.none hf rfl) hf rfl) hf rfl), hs⟩
    · rintro a w ⟨x572, hr_, hf, hs⟩
      subst hr_
      try dsimp only at hm
      refine wpL_seq ?_
      refine wpL_region ?_
      refine sY hf hs rfl rfl rfl (Y_assign rfl rfl) ?_; clear hf; intro a hf
      refine wpO_nil ?_
      refine wpL_seq ?_
      refine wpL_seq ?_
      refine wpL_region ?_
      refine sY hf hs rfl rfl rfl (Y_move rfl rfl) ?_; clear hf; intro a hf
      refine sY hf hs rfl rfl rfl (Y_assign rfl rfl) ?_; clear hf; intro a hf
      refine wpO_nil ?_
      obtain ⟨r641, hl642, hm⟩ := bind_some hm
      have hs : St [] W _ [.blk b1 30 [.int .i64 p0.Events, .slice A_p0_1 p0.Places.length c_p0_1], .row A6 xs8.length xs8.length 2 1 (ints xs414), .row none 0 0 2 1 (ints ([] : List Int))] := hs.addNil 2 1
      refine wpL_block (fun a w => ∃ xs636 : List Int, ∃ A637, ∃ n638, ∃ c639, xs636 = r641 ∧ n638 = xs636.length ∧ Fr a 101 [(11, .slice A637 n638 c639)] ∧ St [] W w [.row A637 n638 c639 2 1 (ints xs636)]) ?_ ?_
      · refine wpL_loop (fun n a w => ∃ xs617 : List Int, ∃ x622 : Int, ∃ A618, ∃ n619, ∃ c620, impl_betterCircuit_L7 F p0 xs414 x572 n xs617 x622 = some r641 ∧ n619 = xs617.length ∧ Fr a 101 [(2, .pointer (some ⟨b1, 0, none⟩)), (6, .slice A6 xs8.length xs8.length), (7, .int .i64 x572), (11, .slice A618 n619 c620), (12, .int .i64 x622)] ∧ St [] W w [.blk b1 30 [.int .i64 p0.Events, .slice A_p0_1 p0.Places.length c_p0_1], .row A6 xs8.length xs8.length 2 1 (ints xs414), .row A618 n619 c620 2 1 (ints xs617)]) F ?_ ?_ ?_
        · exact ⟨([] : List Int), x572, none, 0, 0, hl642, rfl, (Fr.pick (Fr.pick (Fr.pick (Fr.pick (Fr.pick hf.none hf rfl) hf rfl) hf rfl) hf rfl) hf rfl), hs⟩
        · rintro a w ⟨xs617, x622, A618, n619, c620, h0_, -, -, -⟩; simp [impl_betterCircuit_L7] at h0_
        · rintro n644 a w ⟨xs617, x622, A618, n619, c620, hm643, hn621, hf, hs⟩
          rw [impl_betterCircuit_L7] at hm643
          refine wpL_block0 ?_
          refine wpL_seq ?_
          refine wpL_region ?_
          refine sY hf hs rfl rfl rfl (Y_move rfl rfl) ?_; clear hf; intro a hf
          refine sY hf hs rfl rfl rfl (Y_move rfl rfl) ?_; clear hf; intro a hf
          refine sY hf hs rfl rfl rfl (Y_move rfl rfl) ?_; clear hf; intro a hf
          obtain ⟨q645, hi646, hm643⟩ := bind_some hm643
          obtain ⟨hi646a, hi646b, hi646q⟩ := idx_some hi646
          refine sY hf hs rfl rfl rfl (Y_index rfl rfl rfl el36 ti2 (Rd.isAt (hs.rd (i := 1) rfl) (at1 (ints_at hi646q))) hi646a (ltn hn415 hi646b)) ?_; clear hf; intro a hf
          refine sY hf hs rfl rfl rfl (Y_load_rd rfl rfl (fun w hs => hs.rd (i := 1) rfl) (at1 (ints_at hi646q)) ag2) ?_; clear hf; intro a hf
          refine sBuildSlice (parts := [(0, .tmp 83)]) (vs := [.int .i64 q645]) (cells := [.int .i64 q645]) hf hs rfl rfl rfl rfl rfl el36 ti2 rfl rfl rfl rfl ?_; clear hf hs; intro a w A647 hs hA648 hf
          have hs : St [] W w [.blk b1 30 [.int .i64 p0.Events, .slice A_p0_1 p0.Places.length c_p0_1], .row A6 xs8.length xs8.length 2 1 (ints xs414), .row A618 n619 c620 2 1 (ints xs617), .row A647 1 1 2 1 (ints ([q645]))] := hs
          obtain ⟨xs651, ha652, hm643⟩ := bind_some hm643
          refine sAppendL (i := 2) (xs := xs617) (ys := [q645]) (enc := ints) hf hs rfl rfl rfl rfl rfl rfl hn621 rfl rfl ha652 el36 ti2 rfl rfl rfl (hs.rd (i := 3) rfl) (Nat.succ_pos _) ints_len1 ints_append ints_one ?_; clear hf hs; intro a w A649 c650 hs hf
          have hs : St [] W w [.blk b1 30 [.int .i64 p0.Events, .slice A_p0_1 p0.Places.length c_p0_1], .row A6 xs8.length xs8.length 2 1 (ints xs414), .row A649 xs651.length c650 2 1 (ints xs651), .row A647 1 1 2 1 (ints ([q645]))] := hs
          refine sY hf hs rfl rfl rfl (Y_assign rfl rfl) ?_; clear hf; intro a hf
          refine wpO_nil ?_
          refine wpL_seq ?_
          refine wpL_draw (by kernel_rfl) (by kernel_rfl) hs ?_
          refine qY hf rfl rfl rfl (Y_fieldAddr rfl rfl fo30_1) ?_; clear hf; intro a hf
          refine qY hf rfl rfl rfl (Y_load_blk rfl rfl (i := 0) rfl rfl ag28) ?_; clear hf; intro a hf
          refine qY hf rfl rfl rfl (Y_move rfl rfl) ?_; clear hf; intro a hf
          refine qY hf rfl rfl rfl (Y_move rfl rfl) ?_; clear hf; intro a hf
          obtain ⟨q653, hi654, hm643⟩ := bind_some hm643
          obtain ⟨hi654a, hi654b, hi654q⟩ := idx_some hi654
          refine qY hf rfl rfl rfl (Y_index rfl rfl rfl el36 ti2 (Rd.isAt (hs.rd (i := 1) rfl) (at1 (ints_at hi654q))) hi654a (ltn hn415 hi654b)) ?_; clear hf; intro a hf
          refine qY hf rfl rfl rfl (Y_load_rd rfl rfl (fun w hs => hs.rd (i := 1) rfl) (at1 (ints_at hi654q)) ag2) ?_; clear hf; intro a hf
          obtain ⟨q655, hi656, hm643⟩ := bind_some hm643
          obtain ⟨hi656a, hi656b, hi656q⟩ := idx_some hi656
          refine qY hf rfl rfl rfl (Y_index rfl rfl rfl el28 ti120 (Rd.isAt (h_p0_1.at hs) (recs_at (s := 4) GPlace.len hi656q (j := 0) rfl)) hi656a hi656b) ?_; clear hf; intro a hf
          refine qY hf rfl rfl rfl (Y_fieldAddrE rfl rfl fo120_0) ?_; clear hf; intro a hf
          refine qY hf rfl rfl rfl (Y_load_rd rfl rfl (fun w hs => h_p0_1.at hs) (recs_at (s := 4) GPlace.len hi656q (j := 0) rfl) ag2) ?_; clear hf; intro a hf
          refine qY hf rfl rfl rfl (Y_assign rfl rfl) ?_; clear hf; intro a hf
          refine qNil ?_; clear hs; intro w hs
          refine wpL_seq ?_
          refine wpL_region ?_
          refine sY hf hs rfl rfl rfl (Y_move rfl rfl) ?_; clear hf; intro a hf
          refine sY hf hs rfl rfl rfl (Y_move rfl rfl) ?_; clear hf; intro a hf
          refine sY hf hs rfl rfl rfl (Y_eql rfl rfl rfl) ?_; clear hf; intro a hf
          refine wpO_nil ?_
          refine wpL_cond hf rfl (fun hb657 => ?_) (fun hb657 => ?_)
          · have hm643 := bif_t hm643 hb657
            refine wpL_exit (Qb_exit_ne rfl (Ql_exit (Qb_exit ?_)))
            exact ⟨xs651, A649, xs651.length, c650, Option.some.inj hm643, rfl, (Fr.pick hf.none hf rfl), hs.sel [2] (by decide)⟩
          · have hm643 := bif_f hm643 hb657
            refine wpL_skip ?_
            refine wpL_nil (Qb_normal ?_)
            refine wpL_nil (Ql_normal ?_)
            exact ⟨xs651, q655.From, A649, xs651.length, c650, hm643, rfl, (Fr.pick (Fr.pick (Fr.pick (Fr.pick (Fr.pick hf.none hf rfl) hf rfl) hf rfl) hf rfl) hf rfl), hs.sel [0, 1, 2] (by decide)⟩
      · rintro a w ⟨xs636, A637, n638, c639, hr_, hn640, hf, hs⟩
        subst hr_
        try dsimp only at hm
        refine wpL_seq ?_
        refine wpL_region ?_
        refine sY hf hs rfl rfl rfl (Y_move rfl rfl) ?_; clear hf; intro a hf
        obtain ⟨r658, hc659, hm⟩ := bind_some hm
        refine sCall hf rfl rfl rfl rfl (cap := []) rfl rfl en128 (slices_Reverse_int64_ok F xs636 A637 n638 c639 hn640 _ _ hc659 (hs.res _ _ (show _[0]? = some _ from rfl))) ?_; clear hf
        rintro _ w ⟨rfl, hn660, hs1⟩ a hf
        have hs : St [] W w [.row A637 n638 c639 2 1 (ints r658.2)] := hs.mut (i := 0) rfl (fun b hb => muA_mem hb) hs1
        clear hs1
        refine wpO_nil ?_
        refine wpL_seq ?_
        refine wpL_region ?_
        refine sY hf hs rfl rfl rfl (Y_move rfl rfl) ?_; clear hf; intro a hf
        refine sY hf hs rfl rfl rfl (Y_assign rfl rfl) ?_; clear hf; intro a hf
        refine wpO_nil ?_
        obtain ⟨_, hne661, hm⟩ := bind_some hm
        obtain rfl := Option.some.inj hm
        refine wpL_ret (ret_tmp rfl hf rfl ?_)
        exact ⟨_, rfl, A637, n638, c639, rfl, hn660, (fun h_ => absurd h_ (nonE_some hne661)), hs⟩

set_option maxRecDepth 100000 in
theorem impl_LeastPeriod_ok (F : Nat) (p0_g : GEventGraph) (A_p0_g_1 : Option Addr) (n_p0_g_1 c_p0_g_1 : Nat) (hn_p0_g_1 : n_p0_g_1 = p0_g.Places.length) (r : Int × Int) (W : World) (hm : impl_LeastPeriod F p0_g = some r) (h_p0_g_1 : Rd W A_p0_g_1 ((recs GPlace.cells) p0_g.Places)) :
    Calls Try.prog 19 [.agg #[.int .i64 p0_g.Events, .slice A_p0_g_1 n_p0_g_1 c_p0_g_1]].toArray W fun e w' => ∃ v, e = .returned v ∧ v = .tuple #[.int .i64 r.1, .int .i64 r.2] ∧ St [] W w' [] := by
  subst hn_p0_g_1
  unfold impl_LeastPeriod at hm
  refine Calls.enter (N := 31) Try.func19 rfl rfl rfl (fun a hf => ?_)
  have hs := St.start W
  obtain ⟨w, hw_⟩ : ∃ w, w = W := ⟨W, rfl⟩
  clear hw_ w
  refine wpL_seq ?_
  refine wpL_region ?_
  refine sBox hf hs rfl rfl rfl rfl rfl (cs := [.int .i64 p0_g.Events, .slice A_p0_g_1 p0_g.Places.length c_p0_g_1]) rfl ?_; clear hf hs; intro a w b1 hs hf
  have hs : St [] W w [.blk b1 30 [.int .i64 p0_g.Events, .slice A_p0_g_1 p0_g.Places.length c_p0_g_1]] := hs
  refine sY hf hs rfl rfl rfl (Y_assign rfl rfl) ?_; clear hf; intro a hf
  refine sY hf hs rfl rfl rfl (Y_assign rfl rfl) ?_; clear hf; intro a hf
  refine wpO_nil ?_
  refine wpL_seq ?_
  refine wpL_seq ?_
  refine wpL_region ?_
  refine sY hf hs rfl rfl rfl (Y_load_blkS rfl rfl (i := 0) rfl ag30 ti30 rfl) ?_; clear hf; intro a hf
  obtain ⟨r2, hc3, hm⟩ := bind_some hm
  refine sCall hf rfl rfl rfl rfl (cap := []) rfl rfl en76 (impl_IsEventGraph_ok F p0_g A_p0_g_1 p0_g.Places.length c_p0_g_1 rfl _ _ hc3 (h_p0_g_1.at hs)) ?_; clear hf
  rintro _ w ⟨rfl, hs1⟩ a hf
  have hs : St [] W w [.blk b1 30 [.int .i64 p0_g.Events, .slice A_p0_g_1 p0_g.Places.length c_p0_g_1]] := hs.ext hs1.below
  clear hs1
  refine sY hf hs rfl rfl rfl (Y_not rfl rfl) ?_; clear hf; intro a hf
  refine wpO_nil ?_
  refine wpL_cond hf rfl (fun hb4 => ?_) (fun hb4 => ?_)
  · have hm := bif_t hm hb4
    refine wpL_seq ?_
    refine wpL_region ?_
    refine sY hf hs rfl rfl rfl (Y_assign rfl rfl) ?_; clear hf; intro a hf
    refine sY hf hs rfl rfl rfl (Y_assign rfl rfl) ?_; clear hf; intro a hf
    refine wpO_nil ?_
    obtain rfl := Option.some.inj hm
    refine wpL_ret (ret_tmp2 rfl hf rfl rfl ?_)
    exact ⟨_, rfl, rfl, hs.sel [] (by decide)⟩
  · have hm := bif_f hm hb4
    refine wpL_skip ?_
    refine wpL_seq ?_
    refine wpL_region ?_
    refine sY hf hs rfl rfl rfl (Y_assign rfl rfl) ?_; clear hf; intro a hf
    refine sY hf hs rfl rfl rfl (Y_assign rfl rfl) ?_; clear hf; intro a hf
    refine wpO_nil ?_
    refine wpL_seq ?_
    refine wpL_seq ?_
    refine wpL_region ?_
    refine sY hf hs rfl rfl rfl (Y_load_blkS rfl rfl (i := 0) rfl ag30 ti30 rfl) ?_; clear hf; intro a hf
    refine sY hf hs rfl rfl rfl (Y_move rfl rfl) ?_; clear hf; intro a hf
    refine sY hf hs rfl rfl rfl (Y_build (parts := [(0, .tmp 11), (1, .const (.int .i64 1))]) (vs := [.int .i64 10000, .int .i64 1]) rfl rfl (run_build (parts := [(0, .int .i64 10000), (1, .int .i64 1)]) (cells := [.int .i64 10000, .int .i64 1]) (places := #[(0, 1), (1, 1)]) ti84 Try.underlying84 (fun w => by simp [go_sem]) rfl)) ?_; clear hf; intro a hf
    obtain ⟨r5, hc6, hm⟩ := bind_some hm
    refine sCall hf rfl rfl rfl rfl (cap := []) rfl rfl en77 (impl_betterCircuit_ok F p0_g A_p0_g_1 p0_g.Places.length c_p0_g_1 rfl (GRatio.mk 10000 1) _ _ hc6 (h_p0_g_1.at hs)) ?_; clear hf
    rintro _ w ⟨A7, n8, c9, rfl, hn10, hz11, hs1⟩ a hf
    have hs : St [] W w [.blk b1 30 [.int .i64 p0_g.Events, .slice A_p0_g_1 p0_g.Places.length c_p0_g_1], .row A7 n8 c9 2 1 (ints r5)] := hs.join hs1
    clear hs1
    refine sY hf hs rfl rfl rfl (Y_neqnilO rfl rfl rfl un36 (hs.nilInts (i := 1) rfl hn10 hz11)) ?_; clear hf; intro a hf
    refine wpO_nil ?_
    refine wpL_cond hf rfl (fun hb12 => ?_) (fun hb12 => ?_)
    · have hm := bif_t hm hb12
      refine wpL_seq ?_
      refine wpL_region ?_
      refine sY hf hs rfl rfl rfl (Y_assign rfl rfl) ?_; clear hf; intro a hf
      refine sY hf hs rfl rfl rfl (Y_assign rfl rfl) ?_; clear hf; intro a hf
      refine wpO_nil ?_
      obtain rfl := Option.some.inj hm
      refine wpL_ret (ret_tmp2 rfl hf rfl rfl ?_)
      exact ⟨_, rfl, rfl, hs.sel [] (by decide)⟩
    · have hm := bif_f hm hb12
      refine wpL_skip ?_
      refine wpL_seq ?_
      obtain ⟨r45, hl46, hm⟩ := bind_some hm
      refine wpL_block (fun a w => ∃ x44 : Int, x44 = r45 ∧ Fr a 31 [(4, .int .i64 x44)] ∧ St [] W w []) ?_ ?_
      · refine wpL_loop (fun n a w => ∃ x33 : Int, ∃ x34 : Int, impl_LeastPeriod_L1 F p0_g n x33 x34 = some r45 ∧ Fr a 31 [(1, .pointer (some ⟨b1, 0, none⟩)), (4, .int .i64 x33), (5, .int .i64 x34)] ∧ St [] W w [.blk b1 30 [.int .i64 p0_g.Events, .slice A_p0_g_1 p0_g.Places.length c_p0_g_1]]) F ?_ ?_ ?_
        · exact ⟨0, 10000, hl46, (Fr.pick (Fr.pick (Fr.pick hf.none hf rfl) hf rfl) hf rfl), hs.sel [0] (by decide)⟩
        · rintro a w ⟨x33, x34, h0_, -, -⟩; simp [impl_LeastPeriod_L1] at h0_
        · rintro n48 a w ⟨x33, x34, hm47, hf, hs⟩
          rw [impl_LeastPeriod_L1] at hm47
          refine wpL_seq ?_
          refine wpL_seq ?_
          refine wpL_region ?_
          refine sY hf hs rfl rfl rfl (Y_move rfl rfl) ?_; clear hf; intro a hf
          refine sY hf hs rfl rfl rfl (Y_move rfl rfl) ?_; clear hf; intro a hf
          refine sY hf hs rfl rfl rfl (Y_lss rfl rfl rfl) ?_; clear hf; intro a hf
          refine wpO_nil ?_
          refine wpL_cond hf rfl (fun hb49 => ?_) (fun hb49 => ?_)
          · have hm47 := bif_t hm47 hb49
            refine wpL_skip ?_
            refine wpL_block0 ?_
            refine wpL_seq ?_
            refine wpL_region ?_
            refine sY hf hs rfl rfl rfl (Y_move rfl rfl) ?_; clear hf; intro a hf
            refine sY hf hs rfl rfl rfl (Y_move rfl rfl) ?_; clear hf; intro a hf
            refine sY hf hs rfl rfl rfl (Y_add rfl rfl rfl) ?_; clear hf; intro a hf
            refine sY hf hs rfl rfl rfl (Y_quo rfl rfl rfl (by decide)) ?_; clear hf; intro a hf
            refine sY hf hs rfl rfl rfl (Y_assign rfl rfl) ?_; clear hf; intro a hf
            refine wpO_nil ?_
            refine wpL_seq ?_
            refine wpL_region ?_
            refine sY hf hs rfl rfl rfl (Y_load_blkS rfl rfl (i := 0) rfl ag30 ti30 rfl) ?_; clear hf; intro a hf
            refine sY hf hs rfl rfl rfl (Y_move rfl rfl) ?_; clear hf; intro a hf
            refine sY hf hs rfl rfl rfl (Y_build (parts := [(0, .tmp 23), (1, .const (.int .i64 1))]) (vs := [.int .i64 (IntKind.i64.wrap ((IntKind.i64.wrap (x33 + x34)).tdiv 2)), .int .i64 1]) rfl rfl (run_build (parts := [(0, .int .i64 (IntKind.i64.wrap ((IntKind.i64.wrap (x33 + x34)).tdiv 2))), (1, .int .i64 1)]) (cells := [.int .i64 (IntKind.i64.wrap ((IntKind.i64.wrap (x33 + x34)).tdiv 2)), .int .i64 1]) (places := #[(0, 1), (1, 1)]) ti84 Try.underlying84 (fun w => by simp [go_sem]) rfl)) ?_; clear hf; intro a hf
            obtain ⟨r50, hc51, hm47⟩ := bind_some hm47
            refine sCall hf rfl rfl rfl rfl (cap := []) rfl rfl en77 (impl_betterCircuit_ok F p0_g A_p0_g_1 p0_g.Places.length c_p0_g_1 rfl (GRatio.mk (IntKind.i64.wrap ((IntKind.i64.wrap (x33 + x34)).tdiv 2)) 1) _ _ hc51 (h_p0_g_1.at hs)) ?_; clear hf
            rintro _ w ⟨A52, n53, c54, rfl, hn55, hz56, hs1⟩ a hf
            have hs : St [] W w [.blk b1 30 [.int .i64 p0_g.Events, .slice A_p0_g_1 p0_g.Places.length c_p0_g_1], .row A52 n53 c54 2 1 (ints r50)] := hs.join hs1
            clear hs1
            refine sY hf hs rfl rfl rfl (Y_eqnilO rfl rfl rfl un36 (hs.nilInts (i := 1) rfl hn55 hz56)) ?_; clear hf; intro a hf
            refine wpO_nil ?_
            refine wpL_cond hf rfl (fun hb57 => ?_) (fun hb57 => ?_)
            · have hm47 := bif_t hm47 hb57
              refine wpL_region ?_
              refine sY hf hs rfl rfl rfl (Y_move rfl rfl) ?_; clear hf; intro a hf
              refine sY hf hs rfl rfl rfl (Y_assign rfl rfl) ?_; clear hf; intro a hf
              refine wpO_nil ?_
              refine wpL_nil (Qb_normal ?_)
              refine wpL_nil (Ql_normal ?_)
              exact ⟨x33, (IntKind.i64.wrap ((IntKind.i64.wrap (x33 + x34)).tdiv 2)), hm47, (Fr.pick (Fr.pick (Fr.pick hf.none hf rfl) hf rfl) hf rfl), hs.sel [0] (by decide)⟩
            · have hm47 := bif_f hm47 hb57
              refine wpL_region ?_
              refine sY hf hs rfl rfl rfl (Y_move rfl rfl) ?_; clear hf; intro a hf
              refine sY hf hs rfl rfl rfl (Y_add rfl rfl rfl) ?_; clear hf; intro a hf
              refine sY hf hs rfl rfl rfl (Y_assign rfl rfl) ?_; clear hf; intro a hf
              refine wpO_nil ?_
              refine wpL_nil (Qb_normal ?_)
              refine wpL_nil (Ql_normal ?_)
              exact ⟨(IntKind.i64.wrap ((IntKind.i64.wrap ((IntKind.i64.wrap (x33 + x34)).tdiv 2)) + 1)), x34, hm47, (Fr.pick (Fr.pick (Fr.pick hf.none hf rfl) hf rfl) hf rfl), hs.sel [0] (by decide)⟩
          · have hm47 := bif_f hm47 hb49
            refine wpL_exit (Ql_exit (Qb_exit ?_))
            exact ⟨x33, Option.some.inj hm47, (Fr.pick hf.none hf rfl), hs.sel [] (by decide)⟩
      · rintro a w ⟨x44, hr_, hf, hs⟩
        subst hr_
        try dsimp only at hm
        refine wpL_seq ?_
        refine wpL_region ?_
        refine sY hf hs rfl rfl rfl (Y_move rfl rfl) ?_; clear hf; intro a hf
        refine sY hf hs rfl rfl rfl (Y_assign rfl rfl) ?_; clear hf; intro a hf
        refine sY hf hs rfl rfl rfl (Y_assign rfl rfl) ?_; clear hf; intro a hf
        refine wpO_nil ?_
        obtain rfl := Option.some.inj hm
        refine wpL_ret (ret_tmp2 rfl hf rfl rfl ?_)
        exact ⟨_, rfl, rfl, hs⟩

set_option maxRecDepth 100000 in
theorem laws_eqPlace_ok (F : Nat) (p0_a : GPlace) (p1_b : GPlace) (r : Bool) (W : World) (hm : laws_eqPlace F p0_a p1_b = some r) :
    Calls Try.prog 129 [.agg #[.int .i64 p0_a.From, .int .i64 p0_a.To, .int .i64 p0_a.Delay, .int .i64 p0_a.Tokens], .agg #[.int .i64 p1_b.From, .int .i64 p1_b.To, .int .i64 p1_b.Delay, .int .i64 p1_b.Tokens]].toArray W fun e w' => ∃ v, e = .returned v ∧ v = .bool r ∧ St [] W w' [] := by
  unfold laws_eqPlace at hm
  refine Calls.enter (N := 25) Try.func129 rfl rfl rfl (fun a hf => ?_)
  have hs := St.start W
  obtain ⟨w, hw_⟩ : ∃ w, w = W := ⟨W, rfl⟩
  clear hw_ w
  refine wpL_seq ?_
  refine wpL_region ?_
  refine sBox hf hs rfl rfl rfl rfl rfl (cs := [.int .i64 p0_a.From, .int .i64 p0_a.To, .int .i64 p0_a.Delay, .int .i64 p0_a.Tokens]) rfl ?_; clear hf hs; intro a w b1 hs hf
  have hs : St [] W w [.blk b1 120 [.int .i64 p0_a.From, .int .i64 p0_a.To, .int .i64 p0_a.Delay, .int .i64 p0_a.Tokens]] := hs
  refine sBox hf hs rfl rfl rfl rfl rfl (cs := [.int .i64 p1_b.From, .int .i64 p1_b.To, .int .i64 p1_b.Delay, .int .i64 p1_b.Tokens]) rfl ?_; clear hf hs; intro a w b2 hs hf
  have hs : St [] W w [.blk b1 120 [.int .i64 p0_a.From, .int .i64 p0_a.To, .int .i64 p0_a.Delay, .int .i64 p0_a.Tokens], .blk b2 120 [.int .i64 p1_b.From, .int .i64 p1_b.To, .int .i64 p1_b.Delay, .int .i64 p1_b.Tokens]] := hs
  refine sY hf hs rfl rfl rfl (Y_assign rfl rfl) ?_; clear hf; intro a hf
  refine wpO_nil ?_
  refine wpL_seq ?_
  refine wpL_seq ?_
  refine wpL_region ?_
  refine sY hf hs rfl rfl rfl (Y_fieldAddr rfl rfl fo120_0) ?_; clear hf; intro a hf
  refine sY hf hs rfl rfl rfl (Y_load_blk rfl rfl (i := 0) rfl rfl ag2) ?_; clear hf; intro a hf
  refine sY hf hs rfl rfl rfl (Y_fieldAddr rfl rfl fo120_0) ?_; clear hf; intro a hf
  refine sY hf hs rfl rfl rfl (Y_load_blk rfl rfl (i := 1) rfl rfl ag2) ?_; clear hf; intro a hf
  refine sY hf hs rfl rfl rfl (Y_neq rfl rfl rfl) ?_; clear hf; intro a hf
  refine wpO_nil ?_
  refine wpL_cond hf rfl (fun hb3 => ?_) (fun hb3 => ?_)
  · have hm := bif_t hm hb3
    refine wpL_seq ?_
    refine wpL_region ?_
    refine sY hf hs rfl rfl rfl (Y_assign rfl rfl) ?_; clear hf; intro a hf
    refine wpO_nil ?_
    obtain rfl := Option.some.inj hm
    refine wpL_ret (ret_tmp rfl hf rfl ?_)
    exact ⟨_, rfl, rfl, hs.sel [] (by decide)⟩
  · have hm := bif_f hm hb3
    refine wpL_skip ?_
    refine wpL_seq ?_
    refine wpL_seq ?_
    refine wpL_region ?_
    refine sY hf hs rfl rfl rfl (Y_fieldAddr rfl rfl fo120_1) ?_; clear hf; intro a hf
    refine sY hf hs rfl rfl rfl (Y_load_blk rfl rfl (i := 0) rfl rfl ag2) ?_; clear hf; intro a hf
    refine sY hf hs rfl rfl rfl (Y_fieldAddr rfl rfl fo120_1) ?_; clear hf; intro a hf
    refine sY hf hs rfl rfl rfl (Y_load_blk rfl rfl (i := 1) rfl rfl ag2) ?_; clear hf; intro a hf
    refine sY hf hs rfl rfl rfl (Y_neq rfl rfl rfl) ?_; clear hf; intro a hf
    refine wpO_nil ?_
    refine wpL_cond hf rfl (fun hb4 => ?_) (fun hb4 => ?_)
    · have hm := bif_t hm hb4
      refine wpL_seq ?_
      refine wpL_region ?_
      refine sY hf hs rfl rfl rfl (Y_assign rfl rfl) ?_; clear hf; intro a hf
      refine wpO_nil ?_
      obtain rfl := Option.some.inj hm
      refine wpL_ret (ret_tmp rfl hf rfl ?_)
      exact ⟨_, rfl, rfl, hs.sel [] (by decide)⟩
    · have hm := bif_f hm hb4
      refine wpL_skip ?_
      refine wpL_seq ?_
      refine wpL_seq ?_
      refine wpL_region ?_
      refine sY hf hs rfl rfl rfl (Y_fieldAddr rfl rfl fo120_2) ?_; clear hf; intro a hf
      refine sY hf hs rfl rfl rfl (Y_load_blk rfl rfl (i := 0) rfl rfl ag2) ?_; clear hf; intro a hf
      refine sY hf hs rfl rfl rfl (Y_fieldAddr rfl rfl fo120_2) ?_; clear hf; intro a hf
      refine sY hf hs rfl rfl rfl (Y_load_blk rfl rfl (i := 1) rfl rfl ag2) ?_; clear hf; intro a hf
      refine sY hf hs rfl rfl rfl (Y_neq rfl rfl rfl) ?_; clear hf; intro a hf
      refine wpO_nil ?_
      refine wpL_cond hf rfl (fun hb5 => ?_) (fun hb5 => ?_)
      · have hm := bif_t hm hb5
        refine wpL_seq ?_
        refine wpL_region ?_
        refine sY hf hs rfl rfl rfl (Y_assign rfl rfl) ?_; clear hf; intro a hf
        refine wpO_nil ?_
        obtain rfl := Option.some.inj hm
        refine wpL_ret (ret_tmp rfl hf rfl ?_)
        exact ⟨_, rfl, rfl, hs.sel [] (by decide)⟩
      · have hm := bif_f hm hb5
        refine wpL_skip ?_
        refine wpL_seq ?_
        refine wpL_seq ?_
        refine wpL_region ?_
        refine sY hf hs rfl rfl rfl (Y_fieldAddr rfl rfl fo120_3) ?_; clear hf; intro a hf
        refine sY hf hs rfl rfl rfl (Y_load_blk rfl rfl (i := 0) rfl rfl ag2) ?_; clear hf; intro a hf
        refine sY hf hs rfl rfl rfl (Y_fieldAddr rfl rfl fo120_3) ?_; clear hf; intro a hf
        refine sY hf hs rfl rfl rfl (Y_load_blk rfl rfl (i := 1) rfl rfl ag2) ?_; clear hf; intro a hf
        refine sY hf hs rfl rfl rfl (Y_neq rfl rfl rfl) ?_; clear hf; intro a hf
        refine wpO_nil ?_
        refine wpL_cond hf rfl (fun hb6 => ?_) (fun hb6 => ?_)
        · have hm := bif_t hm hb6
          refine wpL_seq ?_
          refine wpL_region ?_
          refine sY hf hs rfl rfl rfl (Y_assign rfl rfl) ?_; clear hf; intro a hf
          refine wpO_nil ?_
          obtain rfl := Option.some.inj hm
          refine wpL_ret (ret_tmp rfl hf rfl ?_)
          exact ⟨_, rfl, rfl, hs.sel [] (by decide)⟩
        · have hm := bif_f hm hb6
          refine wpL_skip ?_
          refine wpL_seq ?_
          refine wpL_region ?_
          refine sY hf hs rfl rfl rfl (Y_assign rfl rfl) ?_; clear hf; intro a hf
          refine wpO_nil ?_
          obtain rfl := Option.some.inj hm
          refine wpL_ret (ret_tmp rfl hf rfl ?_)
          exact ⟨_, rfl, rfl, hs.sel [] (by decide)⟩

set_option maxRecDepth 100000 in
theorem laws_eqPlaceS_ok (F : Nat) (p0_a : List GPlace) (A_p0_a_1 : Option Addr) (n_p0_a_1 c_p0_a_1 : Nat) (hn_p0_a_1 : n_p0_a_1 = p0_a.length) (p1_b : List GPlace) (A_p1_b_1 : Option Addr) (n_p1_b_1 c_p1_b_1 : Nat) (hn_p1_b_1 : n_p1_b_1 = p1_b.length) (r : Bool) (W : World) (hm : laws_eqPlaceS F p0_a p1_b = some r) (h_p0_a_1 : Rd W A_p0_a_1 ((recs GPlace.cells) p0_a)) (h_p1_b_1 : Rd W A_p1_b_1 ((recs GPlace.cells) p1_b)) :
    Calls Try.prog 78 [.slice A_p0_a_1 n_p0_a_1 c_p0_a_1, .slice A_p1_b_1 n_p1_b_1 c_p1_b_1].toArray W fun e w' => ∃ v, e = .returned v ∧ v = .bool r ∧ St [] W w' [] := by
  subst hn_p0_a_1
  subst hn_p1_b_1
  unfold laws_eqPlaceS at hm
  refine Calls.enter (N := 27) Try.func78 rfl rfl rfl (fun a hf => ?_)
  have hs := St.start W
  obtain ⟨w, hw_⟩ : ∃ w, w = W := ⟨W, rfl⟩
  clear hw_ w
  refine wpL_seq ?_
  refine wpL_region ?_
  refine sY hf hs rfl rfl rfl (Y_assign rfl rfl) ?_; clear hf; intro a hf
  refine wpO_nil ?_
  refine wpL_seq ?_
  refine wpL_seq ?_
  refine wpL_region ?_
  refine sY hf hs rfl rfl rfl (Y_move rfl rfl) ?_; clear hf; intro a hf
  refine sY hf hs rfl rfl rfl (Y_lenH rfl rfl el28 rfl) ?_; clear hf; intro a hf
  refine sY hf hs rfl rfl rfl (Y_move rfl rfl) ?_; clear hf; intro a hf
  refine sY hf hs rfl rfl rfl (Y_lenH rfl rfl el28 rfl) ?_; clear hf; intro a hf
  refine sY hf hs rfl rfl rfl (Y_neq rfl rfl rfl) ?_; clear hf; intro a hf
  refine wpO_nil ?_
  refine wpL_cond hf rfl (fun hb1 => ?_) (fun hb1 => ?_)
  · have hm := bif_t hm hb1
    refine wpL_seq ?_
    refine wpL_region ?_
    refine sY hf hs rfl rfl rfl (Y_assign rfl rfl) ?_; clear hf; intro a hf
    refine wpO_nil ?_
    obtain rfl := Option.some.inj hm
    refine wpL_ret (ret_tmp rfl hf rfl ?_)
    exact ⟨_, rfl, rfl, hs⟩
  · have hm := bif_f hm hb1
    refine wpL_skip ?_
    refine wpL_seq ?_
    refine wpL_seq ?_
    refine wpL_region ?_
    refine sY hf hs rfl rfl rfl (Y_assign rfl rfl) ?_; clear hf; intro a hf
    refine wpO_nil ?_
    obtain ⟨r28, hl29, hm⟩ := bind_some hm
    refine wpL_block (fun a w => Sum.inr () = r28 ∧ Fr a 27 [] ∧ St [] W w []) ?_ ?_
    · refine wpL_loop (fun n a w => ∃ x19 : Int, laws_eqPlaceS_L1 F p0_a p1_b n x19 = some r28 ∧ Fr a 27 [(0, .slice A_p0_a_1 p0_a.length c_p0_a_1), (1, .slice A_p1_b_1 p1_b.length c_p1_b_1), (5, .int .i64 x19)] ∧ St [] W w []) F ?_ ?_ ?_
      · exact ⟨0, hl29, (Fr.pick (Fr.pick (Fr.pick hf.none hf rfl) hf rfl) hf rfl), hs⟩
      · rintro a w ⟨x19, h0_, -, -⟩; simp [laws_eqPlaceS_L1] at h0_
      · rintro n31 a w ⟨x19, hm30, hf, hs⟩
        rw [laws_eqPlaceS_L1] at hm30
        refine wpL_seq ?_
        refine wpL_seq ?_
        refine wpL_region ?_
        refine sY hf hs rfl rfl rfl (Y_move rfl rfl) ?_; clear hf; intro a hf
        refine sY hf hs rfl rfl rfl (Y_move rfl rfl) ?_; clear hf; intro a hf
        refine sY hf hs rfl rfl rfl (Y_lenH rfl rfl el28 rfl) ?_; clear hf; intro a hf
        refine sY hf hs rfl rfl rfl (Y_lss rfl rfl rfl) ?_; clear hf; intro a hf
        refine wpO_nil ?_
        refine wpL_cond hf rfl (fun hb32 => ?_) (fun hb32 => ?_)
        · have hm30 := bif_t hm30 hb32
          refine wpL_skip ?_
          refine wpL_seq ?_
          refine wpL_block0 ?_
          refine wpL_seq ?_
          refine wpL_draw (by kernel_rfl) (by kernel_rfl) hs ?_
          refine qY hf rfl rfl rfl (Y_move rfl rfl) ?_; clear hf; intro a hf
          refine qY hf rfl rfl rfl (Y_move rfl rfl) ?_; clear hf; intro a hf
          obtain ⟨q33, hi34, hm30⟩ := bind_some hm30
          obtain ⟨hi34a, hi34b, hi34q⟩ := idx_some hi34
          refine qY hf rfl rfl rfl (Y_index rfl rfl rfl el28 ti120 (Rd.isAt (h_p0_a_1.at hs) (recs_at (s := 4) GPlace.len hi34q (j := 0) rfl)) hi34a hi34b) ?_; clear hf; intro a hf
          refine qY hf rfl rfl rfl (Y_load_rdS rfl rfl (us := [.int .i64 q33.From, .int .i64 q33.To, .int .i64 q33.Delay, .int .i64 q33.Tokens]) (fun w hs => h_p0_a_1.at hs) (fun j u hj => recs_at (s := 4) GPlace.len hi34q hj) (Nat.succ_pos _) ag120 ti120 rfl) ?_; clear hf; intro a hf
          refine qY hf rfl rfl rfl (Y_move rfl rfl) ?_; clear hf; intro a hf
          refine qY hf rfl rfl rfl (Y_move rfl rfl) ?_; clear hf; intro a hf
          obtain ⟨q35, hi36, hm30⟩ := bind_some hm30
          obtain ⟨hi36a, hi36b, hi36q⟩ := idx_some hi36
          refine qY hf rfl rfl rfl (Y_index rfl rfl rfl el28 ti120 (Rd.isAt (h_p1_b_1.at hs) (recs_at (s := 4) GPlace.len hi36q (j := 0) rfl)) hi36a hi36b) ?_; clear hf; intro a hf
          refine qY hf rfl rfl rfl (Y_load_rdS rfl rfl (us := [.int .i64 q35.From, .int .i64 q35.To, .int .i64 q35.Delay, .int .i64 q35.Tokens]) (fun w hs => h_p1_b_1.at hs) (fun j u hj => recs_at (s := 4) GPlace.len hi36q hj) (Nat.succ_pos _) ag120 ti120 rfl) ?_; clear hf; intro a hf
          obtain ⟨r37, hc38, hm30⟩ := bind_some hm30
          refine qCall hf rfl rfl rfl rfl (cap := []) rfl rfl en129 (v := .bool r37) (fun w hs => Calls.scal (laws_eqPlace_ok F q33 q35 _ _ hc38)) ?_; clear hf; intro a hf
          refine qY hf rfl rfl rfl (Y_not rfl rfl) ?_; clear hf; intro a hf
          refine qNil ?_; clear hs; intro w hs
          refine wpL_cond hf rfl (fun hb39 => ?_) (fun hb39 => ?_)
          · have hm30 := bif_t hm30 hb39
            refine wpL_seq ?_
            refine wpL_region ?_
            refine sY hf hs rfl rfl rfl (Y_assign rfl rfl) ?_; clear hf; intro a hf
            refine wpO_nil ?_
            obtain rfl := Option.some.inj hm30
            try dsimp only at hm
            obtain rfl := Option.some.inj hm
            refine wpL_ret (Qb_ret (Ql_ret (Qb_ret (ret_tmp rfl hf rfl ?_))))
            exact ⟨_, rfl, rfl, hs⟩
          · have hm30 := bif_f hm30 hb39
            refine wpL_skip ?_
            refine wpL_nil (Qb_normal ?_)
            refine wpL_region ?_
            refine sY hf hs rfl rfl rfl (Y_move rfl rfl) ?_; clear hf; intro a hf
            refine sY hf hs rfl rfl rfl (Y_add rfl rfl rfl) ?_; clear hf; intro a hf
            refine sY hf hs rfl rfl rfl (Y_assign rfl rfl) ?_; clear hf; intro a hf
            refine wpO_nil ?_
            refine wpL_nil (Ql_normal ?_)
            exact ⟨(IntKind.i64.wrap (x19 + 1)), hm30, (Fr.pick (Fr.pick (Fr.pick hf.none hf rfl) hf rfl) hf rfl), hs⟩
        · have hm30 := bif_f hm30 hb32
          refine wpL_exit (Ql_exit (Qb_exit ?_))
          exact ⟨Option.some.inj hm30, hf.none, hs⟩
    · rintro a w ⟨hr_, hf, hs⟩
      subst hr_
      try dsimp only at hm
      refine wpL_seq ?_
      refine wpL_region ?_
      refine sY hf hs rfl rfl rfl (Y_assign rfl rfl) ?_; clear hf; intro a hf
      refine wpO_nil ?_
      obtain rfl := Option.some.inj hm
      refine wpL_ret (ret_tmp rfl hf rfl ?_)
      exact ⟨_, rfl, rfl, hs⟩

set_option maxRecDepth 100000 in
theorem laws_eqEventGraph_ok (F : Nat) (p0_a : GEventGraph) (A_p0_a_1 : Option Addr) (n_p0_a_1 c_p0_a_1 : Nat) (hn_p0_a_1 : n_p0_a_1 = p0_a.Places.length) (p1_b : GEventGraph) (A_p1_b_1 : Option Addr) (n_p1_b_1 c_p1_b_1 : Nat) (hn_p1_b_1 : n_p1_b_1 = p1_b.Places.length) (r : Bool) (W : World) (hm : laws_eqEventGraph F p0_a p1_b = some r) (h_p0_a_1 : Rd W A_p0_a_1 ((recs GPlace.cells) p0_a.Places)) (h_p1_b_1 : Rd W A_p1_b_1 ((recs GPlace.cells) p1_b.Places)) :
    Calls Try.prog 20 [.agg #[.int .i64 p0_a.Events, .slice A_p0_a_1 n_p0_a_1 c_p0_a_1], .agg #[.int .i64 p1_b.Events, .slice A_p1_b_1 n_p1_b_1 c_p1_b_1]].toArray W fun e w' => ∃ v, e = .returned v ∧ v = .bool r ∧ St [] W w' [] := by
  subst hn_p0_a_1
  subst hn_p1_b_1
  unfold laws_eqEventGraph at hm
  refine Calls.enter (N := 16) Try.func20 rfl rfl rfl (fun a hf => ?_)
  have hs := St.start W
  obtain ⟨w, hw_⟩ : ∃ w, w = W := ⟨W, rfl⟩
  clear hw_ w
  refine wpL_seq ?_
  refine wpL_region ?_
  refine sBox hf hs rfl rfl rfl rfl rfl (cs := [.int .i64 p0_a.Events, .slice A_p0_a_1 p0_a.Places.length c_p0_a_1]) rfl ?_; clear hf hs; intro a w b1 hs hf
  have hs : St [] W w [.blk b1 30 [.int .i64 p0_a.Events, .slice A_p0_a_1 p0_a.Places.length c_p0_a_1]] := hs
  refine sBox hf hs rfl rfl rfl rfl rfl (cs := [.int .i64 p1_b.Events, .slice A_p1_b_1 p1_b.Places.length c_p1_b_1]) rfl ?_; clear hf hs; intro a w b2 hs hf
  have hs : St [] W w [.blk b1 30 [.int .i64 p0_a.Events, .slice A_p0_a_1 p0_a.Places.length c_p0_a_1], .blk b2 30 [.int .i64 p1_b.Events, .slice A_p1_b_1 p1_b.Places.length c_p1_b_1]] := hs
  refine sY hf hs rfl rfl rfl (Y_assign rfl rfl) ?_; clear hf; intro a hf
  refine wpO_nil ?_
  refine wpL_seq ?_
  refine wpL_seq ?_
  refine wpL_region ?_
  refine sY hf hs rfl rfl rfl (Y_fieldAddr rfl rfl fo30_0) ?_; clear hf; intro a hf
  refine sY hf hs rfl rfl rfl (Y_load_blk rfl rfl (i := 0) rfl rfl ag2) ?_; clear hf; intro a hf
  refine sY hf hs rfl rfl rfl (Y_fieldAddr rfl rfl fo30_0) ?_; clear hf; intro a hf
  refine sY hf hs rfl rfl rfl (Y_load_blk rfl rfl (i := 1) rfl rfl ag2) ?_; clear hf; intro a hf
  refine sY hf hs rfl rfl rfl (Y_neq rfl rfl rfl) ?_; clear hf; intro a hf
  refine wpO_nil ?_
  refine wpL_cond hf rfl (fun hb3 => ?_) (fun hb3 => ?_)
  · have hm := bif_t hm hb3
    refine wpL_seq ?_
    refine wpL_region ?_
    refine sY hf hs rfl rfl rfl (Y_assign rfl rfl) ?_; clear hf; intro a hf
    refine wpO_nil ?_
    obtain rfl := Option.some.inj hm
    refine wpL_ret (ret_tmp rfl hf rfl ?_)
    exact ⟨_, rfl, rfl, hs.sel [] (by decide)⟩
  · have hm := bif_f hm hb3
    refine wpL_skip ?_
    refine wpL_seq ?_
    refine wpL_seq ?_
    refine wpL_region ?_
    refine sY hf hs rfl rfl rfl (Y_fieldAddr rfl rfl fo30_1) ?_; clear hf; intro a hf
    refine sY hf hs rfl rfl rfl (Y_load_blk rfl rfl (i := 0) rfl rfl ag28) ?_; clear hf; intro a hf
    refine sY hf hs rfl rfl rfl (Y_fieldAddr rfl rfl fo30_1) ?_; clear hf; intro a hf
    refine sY hf hs rfl rfl rfl (Y_load_blk rfl rfl (i := 1) rfl rfl ag28) ?_; clear hf; intro a hf
    obtain ⟨r4, hc5, hm⟩ := bind_some hm
    refine sCall hf rfl rfl rfl rfl (cap := []) rfl rfl en78 (laws_eqPlaceS_ok F p0_a.Places A_p0_a_1 p0_a.Places.length c_p0_a_1 rfl p1_b.Places A_p1_b_1 p1_b.Places.length c_p1_b_1 rfl _ _ hc5 (h_p0_a_1.at hs) (h_p1_b_1.at hs)) ?_; clear hf
    rintro _ w ⟨rfl, hs1⟩ a hf
    have hs : St [] W w [.blk b1 30 [.int .i64 p0_a.Events, .slice A_p0_a_1 p0_a.Places.length c_p0_a_1], .blk b2 30 [.int .i64 p1_b.Events, .slice A_p1_b_1 p1_b.Places.length c_p1_b_1]] := hs.ext hs1.below
    clear hs1
    refine sY hf hs rfl rfl rfl (Y_not rfl rfl) ?_; clear hf; intro a hf
    refine wpO_nil ?_
    refine wpL_cond hf rfl (fun hb6 => ?_) (fun hb6 => ?_)
    · have hm := bif_t hm hb6
      refine wpL_seq ?_
      refine wpL_region ?_
      refine sY hf hs rfl rfl rfl (Y_assign rfl rfl) ?_; clear hf; intro a hf
      refine wpO_nil ?_
      obtain rfl := Option.some.inj hm
      refine wpL_ret (ret_tmp rfl hf rfl ?_)
      exact ⟨_, rfl, rfl, hs.sel [] (by decide)⟩
    · have hm := bif_f hm hb6
      refine wpL_skip ?_
      refine wpL_seq ?_
      refine wpL_region ?_
      refine sY hf hs rfl rfl rfl (Y_assign rfl rfl) ?_; clear hf; intro a hf
      refine wpO_nil ?_
      obtain rfl := Option.some.inj hm
      refine wpL_ret (ret_tmp rfl hf rfl ?_)
      exact ⟨_, rfl, rfl, hs.sel [] (by decide)⟩

set_option maxRecDepth 100000 in
theorem laws_FnExactLeastPeriod_ok (F : Nat) (p0_aG : LEventGraph) (A_p0_aG_1 : Option Addr) (n_p0_aG_1 c_p0_aG_1 : Nat) (hn_p0_aG_1 : n_p0_aG_1 = p0_aG.Places.length) (r : Bool) (W : World) (hm : laws_FnExactLeastPeriod F p0_aG = some r) (h_p0_aG_1 : Rd W A_p0_aG_1 ((recs LPlace.cells) p0_aG.Places)) :
    Calls Try.prog 3 [.agg #[.int .i64 p0_aG.Events, .slice A_p0_aG_1 n_p0_aG_1 c_p0_aG_1]].toArray W fun e w' => ∃ v, e = .returned v ∧ v = .bool r ∧ St [] W w' [] := by
  subst hn_p0_aG_1
  unfold laws_FnExactLeastPeriod at hm
  refine Calls.enter (N := 40) Try.func3 rfl rfl rfl (fun a hf => ?_)
  have hs := St.start W
  obtain ⟨w, hw_⟩ : ∃ w, w = W := ⟨W, rfl⟩
  clear hw_ w
  refine wpL_seq ?_
  refine wpL_region ?_
  refine sBox hf hs rfl rfl rfl rfl rfl (cs := [.int .i64 p0_aG.Events, .slice A_p0_aG_1 p0_aG.Places.length c_p0_aG_1]) rfl ?_; clear hf hs; intro a w b1 hs hf
  have hs : St [] W w [.blk b1 24 [.int .i64 p0_aG.Events, .slice A_p0_aG_1 p0_aG.Places.length c_p0_aG_1]] := hs
  refine sY hf hs rfl rfl rfl (Y_assign rfl rfl) ?_; clear hf; intro a hf
  refine wpO_nil ?_
  refine wpL_seq ?_
  refine wpL_region ?_
  refine sY hf hs rfl rfl rfl (Y_assign rfl rfl) ?_; clear hf; intro a hf
  refine wpO_nil ?_
  refine wpL_seq ?_
  refine wpL_region ?_
  refine sY hf hs rfl rfl rfl (Y_load_blkS rfl rfl (i := 0) rfl ag24 ti24 rfl) ?_; clear hf; intro a hf
  refine sY hf hs rfl rfl rfl (Y_move rfl rfl) ?_; clear hf; intro a hf
  obtain ⟨r2, hc3, hm⟩ := bind_some hm
  refine sCall hf rfl rfl rfl rfl (cap := []) rfl rfl en16 (laws_szEventGraph_ok F p0_aG A_p0_aG_1 p0_aG.Places.length c_p0_aG_1 rfl 1048576 _ _ hc3 (h_p0_aG_1.at hs)) ?_; clear hf
  rintro _ w ⟨rfl, hs1⟩ a hf
  have hs : St [] W w [.blk b1 24 [.int .i64 p0_aG.Events, .slice A_p0_aG_1 p0_aG.Places.length c_p0_aG_1]] := hs.ext hs1.below
  clear hs1
  refine sY hf hs rfl rfl rfl (Y_assign rfl rfl) ?_; clear hf; intro a hf
  refine wpO_nil ?_
  refine wpL_seq ?_
  refine wpL_seq ?_
  refine wpL_region ?_
  refine sY hf hs rfl rfl rfl (Y_move rfl rfl) ?_; clear hf; intro a hf
  refine sY hf hs rfl rfl rfl (Y_lss rfl rfl rfl) ?_; clear hf; intro a hf
  refine wpO_nil ?_
  refine wpL_cond hf rfl (fun hb4 => ?_) (fun hb4 => ?_)
  · have hm := bif_t hm hb4
    refine wpL_seq ?_
    refine wpL_region ?_
    refine sY hf hs rfl rfl rfl (Y_assign rfl rfl) ?_; clear hf; intro a hf
    refine wpO_nil ?_
    obtain rfl := Option.some.inj hm
    refine wpL_ret (ret_tmp rfl hf rfl ?_)
    exact ⟨_, rfl, rfl, hs.sel [] (by decide)⟩
  · have hm := bif_f hm hb4
    refine wpL_skip ?_
    refine wpL_seq ?_
    refine wpL_region ?_
    refine sY hf hs rfl rfl rfl (Y_load_blkS rfl rfl (i := 0) rfl ag24 ti24 rfl) ?_; clear hf; intro a hf
    obtain ⟨r5, hc6, hm⟩ := bind_some hm
    refine sCall hf rfl rfl rfl rfl (cap := []) rfl rfl en18 (laws_toEventGraph_ok F p0_aG A_p0_aG_1 p0_aG.Places.length c_p0_aG_1 rfl _ _ hc6 (h_p0_aG_1.at hs)) ?_; clear hf
    rintro _ w ⟨A7, n8, c9, rfl, hn10, hs1⟩ a hf
    have hs : St [] W w [.blk b1 24 [.int .i64 p0_aG.Events, .slice A_p0_aG_1 p0_aG.Places.length c_p0_aG_1], .row A7 n8 c9 120 4 ((recs GPlace.cells) r5.Places)] := hs.join hs1
    clear hs1
    obtain ⟨r11, hc12, hm⟩ := bind_some hm
    refine sCall hf rfl rfl rfl rfl (cap := []) rfl rfl en17 (spec_LeastPeriod_ok F r5 A7 n8 c9 hn10 _ _ hc12 (hs.rd (i := 1) rfl)) ?_; clear hf
    rintro _ w ⟨rfl, hs1⟩ a hf
    have hs : St [] W w [.blk b1 24 [.int .i64 p0_aG.Events, .slice A_p0_aG_1 p0_aG.Places.length c_p0_aG_1], .row A7 n8 c9 120 4 ((recs GPlace.cells) r5.Places)] := hs.ext hs1.below
    clear hs1
    refine sY hf hs rfl rfl rfl (Y_move rfl rfl) ?_; clear hf; intro a hf
    refine sY hf hs rfl rfl rfl (Y_extract rfl rfl rfl) ?_; clear hf; intro a hf
    refine sY hf hs rfl rfl rfl (Y_extract rfl rfl rfl) ?_; clear hf; intro a hf
    refine sY hf hs rfl rfl rfl (Y_assign rfl rfl) ?_; clear hf; intro a hf
    refine sY hf hs rfl rfl rfl (Y_assign rfl rfl) ?_; clear hf; intro a hf
    refine wpO_nil ?_
    refine wpL_seq ?_
    refine wpL_region ?_
    refine sY hf hs rfl rfl rfl (Y_load_blkS rfl rfl (i := 0) rfl ag24 ti24 rfl) ?_; clear hf; intro a hf
    obtain ⟨r13, hc14, hm⟩ := bind_some hm
    refine sCall hf rfl rfl rfl rfl (cap := []) rfl rfl en18 (laws_toEventGraph_ok F p0_aG A_p0_aG_1 p0_aG.Places.length c_p0_aG_1 rfl _ _ hc14 (h_p0_aG_1.at hs)) ?_; clear hf
    rintro _ w ⟨A15, n16, c17, rfl, hn18, hs1⟩ a hf
    have hs : St [] W w [.blk b1 24 [.int .i64 p0_aG.Events, .slice A_p0_aG_1 p0_aG.Places.length c_p0_aG_1], .row A7 n8 c9 120 4 ((recs GPlace.cells) r5.Places), .row A15 n16 c17 120 4 ((recs GPlace.cells) r13.Places)] := hs.join hs1
    clear hs1
    refine sAlloc hf hs rfl rfl rfl rfl ti30 ?_; clear hf hs; intro a w b19 hs hf
    have hs : St [] W w [.blk b1 24 [.int .i64 p0_aG.Events, .slice A_p0_aG_1 p0_aG.Places.length c_p0_aG_1], .row A7 n8 c9 120 4 ((recs GPlace.cells) r5.Places), .row A15 n16 c17 120 4 ((recs GPlace.cells) r13.Places), .blk b19 30 [.int .i64 0, .slice none 0 0]] := hs
    refine sStore (i := 3) (us := [.int .i64 r13.Events, .slice A15 n16 c17]) hf hs rfl rfl rfl rfl rfl rfl ti30 rfl rfl rfl (Nat.le_of_ble_eq_true rfl) rfl ?_; clear hs; intro w hs
    have hs : St [] W w [.blk b1 24 [.int .i64 p0_aG.Events, .slice A_p0_aG_1 p0_aG.Places.length c_p0_aG_1], .row A7 n8 c9 120 4 ((recs GPlace.cells) r5.Places), .row A15 n16 c17 120 4 ((recs GPlace.cells) r13.Places), .blk b19 30 [.int .i64 r13.Events, .slice A15 n16 c17]] := hs
    refine wpO_nil ?_
    refine wpL_seq ?_
    refine wpL_region ?_
    refine sY hf hs rfl rfl rfl (Y_load_blkS rfl rfl (i := 3) rfl ag30 ti30 rfl) ?_; clear hf; intro a hf
    obtain ⟨r20, hc21, hm⟩ := bind_some hm
    refine sCall hf rfl rfl rfl rfl (cap := []) rfl rfl en19 (impl_LeastPeriod_ok F r13 A15 n16 c17 hn18 _ _ hc21 (hs.rd (i := 2) rfl)) ?_; clear hf
    rintro _ w ⟨rfl, hs1⟩ a hf
    have hs : St [] W w [.blk b1 24 [.int .i64 p0_aG.Events, .slice A_p0_aG_1 p0_aG.Places.length c_p0_aG_1], .row A7 n8 c9 120 4 ((recs GPlace.cells) r5.Places), .row A15 n16 c17 120 4 ((recs GPlace.cells) r13.Places), .blk b19 30 [.int .i64 r13.Events, .slice A15 n16 c17]] := hs.ext hs1.below
    clear hs1
    refine sY hf hs rfl rfl rfl (Y_move rfl rfl) ?_; clear hf; intro a hf
    refine sY hf hs rfl rfl rfl (Y_extract rfl rfl rfl) ?_; clear hf; intro a hf
    refine sY hf hs rfl rfl rfl (Y_extract rfl rfl rfl) ?_; clear hf; intro a hf
    refine sY hf hs rfl rfl rfl (Y_assign rfl rfl) ?_; clear hf; intro a hf
    refine sY hf hs rfl rfl rfl (Y_assign rfl rfl) ?_; clear hf; intro a hf
    refine wpO_nil ?_
    refine wpL_seq ?_
    refine wpL_seq ?_
    obtain ⟨r24, hj25, hm⟩ := bind_some hm
    refine wpL_cut (fun a w => ∃ b23 : Bool, b23 = r24 ∧ Fr a 40 [(1, .pointer (some ⟨b1, 0, none⟩)), (6, .pointer (some ⟨b19, 0, none⟩)), (34, .bool b23)] ∧ St [] W w [.blk b1 24 [.int .i64 p0_aG.Events, .slice A_p0_aG_1 p0_aG.Places.length c_p0_aG_1], .blk b19 30 [.int .i64 r13.Events, .slice A15 n16 c17], .row A15 n16 c17 120 4 ((recs GPlace.cells) r13.Places)]) ?_ ?_
    · refine wpL_region ?_
      refine sY hf hs rfl rfl rfl (Y_move rfl rfl) ?_; clear hf; intro a hf
      refine sY hf hs rfl rfl rfl (Y_move rfl rfl) ?_; clear hf; intro a hf
      refine sY hf hs rfl rfl rfl (Y_neq rfl rfl rfl) ?_; clear hf; intro a hf
      refine sY hf hs rfl rfl rfl (Y_move rfl rfl) ?_; clear hf; intro a hf
      refine bsplit (r20.1 != r11.1) (fun hb26 => ?_) (fun hb26 => ?_)
      · have hj25 := bif_t hj25 hb26
        refine sNo hf rfl rfl rfl (congrArg (fun b => some (Value.bool b)) hb26) rfl rfl rfl ?_; clear hf; intro a hf
        refine sNo hf rfl rfl rfl (congrArg (fun b => some (Value.bool b)) hb26) rfl rfl rfl ?_; clear hf; intro a hf
        refine sNo hf rfl rfl rfl (congrArg (fun b => some (Value.bool b)) hb26) rfl rfl rfl ?_; clear hf; intro a hf
        refine sY hf hs rfl rfl rfl (Y_pickT rfl (congrArg (fun b => some (Value.bool b)) hb26) rfl) ?_; clear hf; intro a hf
        refine wpO_nil ?_
        refine wpL_nil (then_normal ?_)
        exact ⟨true, Option.some.inj hj25, (Fr.pick (Fr.pick (Fr.pick hf.none hf rfl) hf rfl) hf rfl), hs.sel [0, 3, 2] (by decide)⟩
      · have hj25 := bif_f hj25 hb26
        refine sYg hf hs rfl rfl rfl (congrArg (fun b => some (Value.bool b)) hb26) rfl rfl rfl (Y_move rfl rfl) ?_; clear hf; intro a hf
        refine sYg hf hs rfl rfl rfl (congrArg (fun b => some (Value.bool b)) hb26) rfl rfl rfl (Y_move rfl rfl) ?_; clear hf; intro a hf
        refine sYg hf hs rfl rfl rfl (congrArg (fun b => some (Value.bool b)) hb26) rfl rfl rfl (Y_neq rfl rfl rfl) ?_; clear hf; intro a hf
        refine sY hf hs rfl rfl rfl (Y_pickF rfl (congrArg (fun b => some (Value.bool b)) hb26) rfl) ?_; clear hf; intro a hf
        refine wpO_nil ?_
        refine wpL_nil (then_normal ?_)
        exact ⟨(r20.2 != r11.2), Option.some.inj hj25, (Fr.pick (Fr.pick (Fr.pick hf.none hf rfl) hf rfl) hf rfl), hs.sel [0, 3, 2] (by decide)⟩
    · rintro a w ⟨b23, hr_, hf, hs⟩
      subst hr_
      try dsimp only at hm
      refine wpL_cond hf rfl (fun hb27 => ?_) (fun hb27 => ?_)
      · have hm := bif_t hm hb27
        refine wpL_seq ?_
        refine wpL_region ?_
        refine sY hf hs rfl rfl rfl (Y_assign rfl rfl) ?_; clear hf; intro a hf
        refine wpO_nil ?_
        obtain rfl := Option.some.inj hm
        refine wpL_ret (ret_tmp rfl hf rfl ?_)
        exact ⟨_, rfl, rfl, hs.sel [] (by decide)⟩
      · have hm := bif_f hm hb27
        refine wpL_skip ?_
        refine wpL_seq ?_
        refine wpL_seq ?_
        refine wpL_drawM [.blk b1 24 [.int .i64 p0_aG.Events, .slice A_p0_aG_1 p0_aG.Places.length c_p0_aG_1], .blk b19 30 [.int .i64 r13.Events, .slice A15 n16 c17], .row A15 n16 c17 120 4 ((recs GPlace.cells) r13.Places)] [3] (by kernel_rfl) hs ?_; clear hs; intro w hs
        have hs0 : St [] W w [.blk b1 24 [.int .i64 p0_aG.Events, .slice A_p0_aG_1 p0_aG.Places.length c_p0_aG_1], .blk b19 30 [.int .i64 r13.Events, .slice A15 n16 c17], .row A15 n16 c17 120 4 ((recs GPlace.cells) r13.Places)] := hs
        refine mY (i := 0) [[]] rfl (by kernel_rfl) (by kernel_rfl) hf hs0 rfl rfl rfl (Y_load_blkS rfl rfl (i := 1) rfl ag30 ti30 rfl) ?_; clear hf; intro a hf
        refine mY (i := 1) [[2]] rfl (by kernel_rfl) (by kernel_rfl) hf hs0 rfl rfl rfl (Y_load_blkS rfl rfl (i := 0) rfl ag24 ti24 rfl) ?_; clear hf; intro a hf
        refine mRun (i := 2) rfl (by kernel_rfl) ?_
        obtain ⟨r36, hc37, hm⟩ := bind_some hm
        refine sCall hf rfl rfl rfl rfl (cap := []) rfl rfl en18 (laws_toEventGraph_ok F p0_aG A_p0_aG_1 p0_aG.Places.length c_p0_aG_1 rfl _ _ hc37 (h_p0_aG_1.at hs)) ?_; clear hf
        rintro _ w ⟨A38, n39, c40, rfl, hn41, hs1⟩ a hf
        have hs : St [] W w [.blk b1 24 [.int .i64 p0_aG.Events, .slice A_p0_aG_1 p0_aG.Places.length c_p0_aG_1], .blk b19 30 [.int .i64 r13.Events, .slice A15 n16 c17], .row A15 n16 c17 120 4 ((recs GPlace.cells) r13.Places), .row A38 n39 c40 120 4 ((recs GPlace.cells) r36.Places)] := hs.join hs1
        clear hs1
        have hs0 : St [] W w [.blk b1 24 [.int .i64 p0_aG.Events, .slice A_p0_aG_1 p0_aG.Places.length c_p0_aG_1], .blk b19 30 [.int .i64 r13.Events, .slice A15 n16 c17], .row A15 n16 c17 120 4 ((recs GPlace.cells) r13.Places)] := hs.sel [0, 1, 2] (by decide)
        refine wpO_nil ⟨Or.inr (fun _ => hs0), ?_⟩
        refine mRun (i := 3) rfl (by kernel_rfl) ?_
        obtain ⟨r42, hc43, hm⟩ := bind_some hm
        refine sCall hf rfl rfl rfl rfl (cap := []) rfl rfl en20 (laws_eqEventGraph_ok F r13 A15 n16 c17 hn18 r36 A38 n39 c40 hn41 _ _ hc43 (hs.rd (i := 2) rfl) (hs.rd (i := 3) rfl)) ?_; clear hf
        rintro _ w ⟨rfl, hs1⟩ a hf
        have hs : St [] W w [.blk b1 24 [.int .i64 p0_aG.Events, .slice A_p0_aG_1 p0_aG.Places.length c_p0_aG_1], .blk b19 30 [.int .i64 r13.Events, .slice A15 n16 c17], .row A15 n16 c17 120 4 ((recs GPlace.cells) r13.Places), .row A38 n39 c40 120 4 ((recs GPlace.cells) r36.Places)] := hs.ext hs1.below
        clear hs1
        refine wpO_nil ⟨Or.inl (by decide), ?_⟩
        refine mYp (i := 4) rfl (by kernel_rfl) (by kernel_rfl) hf rfl rfl rfl (fun _ => Y_not rfl rfl) ?_; clear hf; intro a hf
        refine mDone (by kernel_rfl) ?_
        clear hs0
        refine wpL_cond hf rfl (fun hb44 => ?_) (fun hb44 => ?_)
        · have hm := bif_t hm hb44
          refine wpL_seq ?_
          refine wpL_region ?_
          refine sY hf hs rfl rfl rfl (Y_assign rfl rfl) ?_; clear hf; intro a hf
          refine wpO_nil ?_
          obtain rfl := Option.some.inj hm
          refine wpL_ret (ret_tmp rfl hf rfl ?_)
          exact ⟨_, rfl, rfl, hs.sel [] (by decide)⟩
        · have hm := bif_f hm hb44
          refine wpL_skip ?_
          refine wpL_seq ?_
          refine wpL_region ?_
          refine sY hf hs rfl rfl rfl (Y_assign rfl rfl) ?_; clear hf; intro a hf
          refine wpO_nil ?_
          obtain rfl := Option.some.inj hm
          refine wpL_ret (ret_tmp rfl hf rfl ?_)
          exact ⟨_, rfl, rfl, hs.sel [] (by decide)⟩

end Go.Proofs.Ytmijmamolmoheaa
