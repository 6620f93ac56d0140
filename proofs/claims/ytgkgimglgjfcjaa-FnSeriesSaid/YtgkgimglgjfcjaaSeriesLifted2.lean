/- The functions do what their models say. -/
import Derived.Test.YtgkgimglgjfcjaaSeriesLifted1
import Derived.Test.YtgkgimglgjfcjaaRows
namespace Go.Proofs.Ytgkgimglgjfcjaa
open Go.RowKit

set_option maxRecDepth 100000 in
theorem impl_timesVector_ok (F : Nat) (p0_a : List (List Int)) (A_p0_a_1 : Option Addr) (n_p0_a_1 c_p0_a_1 : Nat) (hn_p0_a_1 : n_p0_a_1 = p0_a.length) (p1_x : List Int) (A_p1_x_1 : Option Addr) (n_p1_x_1 c_p1_x_1 : Nat) (hn_p1_x_1 : n_p1_x_1 = p1_x.length) (r : List Int) (W : World) (hm : impl_timesVector F p0_a p1_x = some r) (h_p0_a_1 : RdM W A_p0_a_1 p0_a) (h_p1_x_1 : Rd W A_p1_x_1 (ints p1_x)) :
    Calls Try.prog 83 [.slice A_p0_a_1 n_p0_a_1 c_p0_a_1, .slice A_p1_x_1 n_p1_x_1 c_p1_x_1].toArray W fun e w' => ∃ v, e = .returned v ∧ ∃ A488, ∃ n489, ∃ c490, v = .slice A488 n489 c490 ∧ n489 = r.length ∧ St [] W w' [.row A488 n489 c490 2 1 (ints r)] := by
  subst hn_p0_a_1
  subst hn_p1_x_1
  unfold impl_timesVector at hm
  refine Calls.enter (N := 47) Try.func83 rfl rfl rfl (fun a hf => ?_)
  have hs := St.start W
  obtain ⟨w, hw_⟩ : ∃ w, w = W := ⟨W, rfl⟩
  clear hw_ w
  refine wpL_seq ?_
  refine wpL_region ?_
  refine sY hf hs rfl rfl rfl (Y_assign rfl rfl) ?_; clear hf; intro a hf
  refine wpO_nil ?_
  refine wpL_seq ?_
  refine wpL_region ?_
  refine sY hf hs rfl rfl rfl (Y_move rfl rfl) ?_; clear hf; intro a hf
  refine sY hf hs rfl rfl rfl (Y_lenH rfl rfl el22 rfl) ?_; clear hf; intro a hf
  obtain ⟨xs3, hk2, hm⟩ := bind_some hm
  refine sMakeL (enc := ints) hf hs rfl rfl rfl rfl rfl hk2 el23 ti2 rfl ints_made ?_; clear hf hs; intro a w A1 hs hf
  have hs : St [] W w [.row A1 xs3.length xs3.length 2 1 (ints xs3)] := hs
  refine sY hf hs rfl rfl rfl (Y_assign rfl rfl) ?_; clear hf; intro a hf
  refine wpO_nil ?_
  refine wpL_seq ?_
  refine wpL_seq ?_
  refine wpL_region ?_
  refine sY hf hs rfl rfl rfl (Y_move rfl rfl) ?_; clear hf; intro a hf
  refine sY hf hs rfl rfl rfl (Y_lenH rfl rfl el22 rfl) ?_; clear hf; intro a hf
  refine sY hf hs rfl rfl rfl (Y_move rfl rfl) ?_; clear hf; intro a hf
  refine wpO_nil ?_
  obtain ⟨r366, hl367, hm⟩ := bind_some hm
  refine wpL_block (fun a w => ∃ xs364 : List Int, xs364 = r366 ∧ xs3.length = xs364.length ∧ Fr a 47 [(5, .slice A1 xs3.length xs3.length)] ∧ St [] W w [.row A1 xs3.length xs3.length 2 1 (ints xs364)]) ?_ ?_
  · refine wpL_loop (fun n a w => ∃ xs243 : List Int, ∃ x245 : Int, impl_timesVector_L4 F p0_a p1_x n xs243 x245 = some r366 ∧ xs3.length = xs243.length ∧ Fr a 47 [(1, .slice A_p1_x_1 p1_x.length c_p1_x_1), (5, .slice A1 xs3.length xs3.length), (13, .slice A_p0_a_1 p0_a.length c_p0_a_1), (14, .int .i64 (p0_a.length : Int)), (15, .int .i64 x245)] ∧ St [] W w [.row A1 xs3.length xs3.length 2 1 (ints xs243)]) F ?_ ?_ ?_
    · exact ⟨xs3, 0, hl367, rfl, (FrD.pick (FrD.pick (FrD.pick (FrD.pick (FrD.pick hf.none hf rfl) hf rfl) hf rfl) hf rfl) hf rfl), hs⟩
    · rintro a w ⟨xs243, x245, h0_, -, -, -⟩; simp [impl_timesVector_L4] at h0_
    · rintro n369 a w ⟨xs243, x245, hm368, hn244, hf, hs⟩
      rw [impl_timesVector_L4] at hm368
      refine wpL_seq ?_
      refine wpL_region ?_
      refine sY hf hs rfl rfl rfl (Y_lss rfl rfl rfl) ?_; clear hf; intro a hf
      refine wpO_nil ?_
      refine wpL_seq ?_
      refine wpL_cond hf rfl (fun hb370 => ?_) (fun hb370 => ?_)
      · have hm368 := bif_t hm368 hb370
        refine wpL_skip ?_
        refine wpL_seq ?_
        refine wpL_block0 ?_
        refine wpL_seq ?_
        refine wpL_region ?_
        refine sY hf hs rfl rfl rfl (Y_move rfl rfl) ?_; clear hf; intro a hf
        obtain ⟨q371, hi372, hm368⟩ := bind_some hm368
        obtain ⟨hi372a, hi372b, hi372q⟩ := idx_some hi372
        obtain ⟨vs373, hv374, hr375⟩ := id h_p0_a_1
        obtain ⟨A376, c377, hv378, hR379⟩ := hr375 _ _ hi372q
        refine sY hf hs rfl rfl rfl (Y_index rfl rfl rfl el22 ti23 (Rd.isAt hv374 hv378) hi372a hi372b) ?_; clear hf; intro a hf
        refine sY hf hs rfl rfl rfl (Y_load_rd rfl rfl (fun w hs => hv374.at hs) (at1 hv378) ag23) ?_; clear hf; intro a hf
        refine sY hf hs rfl rfl rfl (Y_assign rfl rfl) ?_; clear hf; intro a hf
        refine sY hf hs rfl rfl rfl (Y_assign rfl rfl) ?_; clear hf; intro a hf
        refine wpO_nil ?_
        refine wpL_seq ?_
        refine wpL_region ?_
        refine sY hf hs rfl rfl rfl (Y_move rfl rfl) ?_; clear hf; intro a hf
        refine sY hf hs rfl rfl rfl (Y_move rfl rfl) ?_; clear hf; intro a hf
        obtain ⟨q380, hi381, hm368⟩ := bind_some hm368
        obtain ⟨hi381a, hi381b, hi381q⟩ := idx_some hi381
        refine sY hf hs rfl rfl rfl (Y_index rfl rfl rfl el23 ti2 (Rd.isAt (hs.rd (i := 0) rfl) (at1 (ints_at hi381q))) hi381a (ltn hn244 hi381b)) ?_; clear hf; intro a hf
        obtain ⟨xs382, hu383, hm368⟩ := bind_some hm368
        refine sStoreL (i := 0) (us := [.int .i64 (-1000000000000000)]) (enc := ints) hf hs rfl rfl rfl rfl rfl rfl hn244 hu383 ti2 rfl rfl rfl rfl rfl ints_len1 (ints_set (-1000000000000000)) ?_; clear hs; intro w hs
        have hs : St [] W w [.row A1 xs3.length xs3.length 2 1 (ints xs382)] := hs
        refine wpO_nil ?_
        refine wpL_seq ?_
        refine wpL_region ?_
        refine sY hf hs rfl rfl rfl (Y_move rfl rfl) ?_; clear hf; intro a hf
        refine sY hf hs rfl rfl rfl (Y_lenH rfl rfl el23 rfl) ?_; clear hf; intro a hf
        refine sY hf hs rfl rfl rfl (Y_move rfl rfl) ?_; clear hf; intro a hf
        refine wpO_nil ?_
        obtain ⟨r461, hl462, hm368⟩ := bind_some hm368
        refine wpL_block (fun a w => ∃ xs459 : List Int, xs459 = r461 ∧ xs3.length = xs459.length ∧ Fr a 47 [(1, .slice A_p1_x_1 p1_x.length c_p1_x_1), (5, .slice A1 xs3.length xs3.length), (13, .slice A_p0_a_1 p0_a.length c_p0_a_1), (14, .int .i64 (p0_a.length : Int)), (15, .int .i64 x245)] ∧ St [] W w [.row A1 xs3.length xs3.length 2 1 (ints xs459)]) ?_ ?_
        · refine wpL_loop (fun n a w => ∃ xs433 : List Int, ∃ x435 : Int, impl_timesVector_L5 F p1_x x245 q371 n xs433 x435 = some r461 ∧ xs3.length = xs433.length ∧ Fr a 47 [(1, .slice A_p1_x_1 p1_x.length c_p1_x_1), (5, .slice A1 xs3.length xs3.length), (6, .int .i64 x245), (13, .slice A_p0_a_1 p0_a.length c_p0_a_1), (14, .int .i64 (p0_a.length : Int)), (15, .int .i64 x245), (23, .slice A376 q371.length c377), (24, .int .i64 (q371.length : Int)), (25, .int .i64 x435)] ∧ St [] W w [.row A1 xs3.length xs3.length 2 1 (ints xs433)]) F ?_ ?_ ?_
          · exact ⟨xs382, 0, hl462, ((hn244).trans (upd_len hu383).symm), (FrD.pick (FrD.pick (FrD.pick (FrD.pick (FrD.pick (FrD.pick (FrD.pick (FrD.pick (FrD.pick hf.none hf rfl) hf rfl) hf rfl) hf rfl) hf rfl) hf rfl) hf rfl) hf rfl) hf rfl), hs⟩
          · rintro a w ⟨xs433, x435, h0_, -, -, -⟩; simp [impl_timesVector_L5] at h0_
          · rintro n464 a w ⟨xs433, x435, hm463, hn434, hf, hs⟩
            rw [impl_timesVector_L5] at hm463
            refine wpL_seq ?_
            refine wpL_region ?_
            refine sY hf hs rfl rfl rfl (Y_lss rfl rfl rfl) ?_; clear hf; intro a hf
            refine wpO_nil ?_
            refine wpL_seq ?_
            refine wpL_cond hf rfl (fun hb465 => ?_) (fun hb465 => ?_)
            · have hm463 := bif_t hm463 hb465
              refine wpL_skip ?_
              refine wpL_seq ?_
              refine wpL_block0 ?_
              refine wpL_seq ?_
              refine wpL_region ?_
              refine sY hf hs rfl rfl rfl (Y_move rfl rfl) ?_; clear hf; intro a hf
              obtain ⟨q466, hi467, hm463⟩ := bind_some hm463
              obtain ⟨hi467a, hi467b, hi467q⟩ := idx_some hi467
              refine sY hf hs rfl rfl rfl (Y_index rfl rfl rfl el23 ti2 (Rd.isAt (hR379.at hs) (at1 (ints_at hi467q))) hi467a hi467b) ?_; clear hf; intro a hf
              refine sY hf hs rfl rfl rfl (Y_load_rd rfl rfl (fun w hs => hR379.at hs) (at1 (ints_at hi467q)) ag2) ?_; clear hf; intro a hf
              refine sY hf hs rfl rfl rfl (Y_assign rfl rfl) ?_; clear hf; intro a hf
              refine sY hf hs rfl rfl rfl (Y_assign rfl rfl) ?_; clear hf; intro a hf
              refine wpO_nil ?_
              refine wpL_drawM [.row A1 xs3.length xs3.length 2 1 (ints xs433)] [14] (by kernel_rfl) hs ?_; clear hs; intro w hs
              have hs0 : St [] W w [.row A1 xs3.length xs3.length 2 1 (ints xs433)] := hs
              refine mYp (i := 0) rfl (by kernel_rfl) (by kernel_rfl) hf rfl rfl rfl (fun _ => Y_move rfl rfl) ?_; clear hf; intro a hf
              refine mYp (i := 1) rfl (by kernel_rfl) (by kernel_rfl) hf rfl rfl rfl (fun _ => Y_move rfl rfl) ?_; clear hf; intro a hf
              refine mYp (i := 2) rfl (by kernel_rfl) (by kernel_rfl) hf rfl rfl rfl (fun _ => Y_move rfl rfl) ?_; clear hf; intro a hf
              refine mYp (i := 3) rfl (by kernel_rfl) (by kernel_rfl) hf rfl rfl rfl (fun _ => Y_move rfl rfl) ?_; clear hf; intro a hf
              obtain ⟨q478, hi479, hm463⟩ := bind_some hm463
              obtain ⟨hi479a, hi479b, hi479q⟩ := idx_some hi479
              refine mYp (i := 4) rfl (by kernel_rfl) (by kernel_rfl) hf rfl rfl rfl (fun _ => Y_index rfl rfl rfl el23 ti2 (Rd.isAt (hs.rd (i := 0) rfl) (at1 (ints_at hi479q))) hi479a (ltn hn434 hi479b)) ?_; clear hf; intro a hf
              refine mY (i := 5) [[]] rfl (by kernel_rfl) (by kernel_rfl) hf hs0 rfl rfl rfl (Y_load_rd rfl rfl (fun w hs => hs.rd (i := 0) rfl) (at1 (ints_at hi479q)) ag2) ?_; clear hf; intro a hf
              refine mYp (i := 6) rfl (by kernel_rfl) (by kernel_rfl) hf rfl rfl rfl (fun _ => Y_move rfl rfl) ?_; clear hf; intro a hf
              refine mYp (i := 7) rfl (by kernel_rfl) (by kernel_rfl) hf rfl rfl rfl (fun _ => Y_move rfl rfl) ?_; clear hf; intro a hf
              refine mYp (i := 8) rfl (by kernel_rfl) (by kernel_rfl) hf rfl rfl rfl (fun _ => Y_move rfl rfl) ?_; clear hf; intro a hf
              obtain ⟨q480, hi481, hm463⟩ := bind_some hm463
              obtain ⟨hi481a, hi481b, hi481q⟩ := idx_some hi481
              refine mYp (i := 9) rfl (by kernel_rfl) (by kernel_rfl) hf rfl rfl rfl (fun _ => Y_index rfl rfl rfl el23 ti2 (Rd.isAt (h_p1_x_1.at hs) (at1 (ints_at hi481q))) hi481a hi481b) ?_; clear hf; intro a hf
              refine mY (i := 10) [[]] rfl (by kernel_rfl) (by kernel_rfl) hf hs0 rfl rfl rfl (Y_load_rd rfl rfl (fun w hs => h_p1_x_1.at hs) (at1 (ints_at hi481q)) ag2) ?_; clear hf; intro a hf
              refine mRun (i := 11) rfl (by kernel_rfl) ?_
              obtain ⟨r482, hc483, hm463⟩ := bind_some hm463
              refine sCall hf rfl rfl rfl rfl (cap := []) rfl rfl en90 (impl_times_ok F q466 q480 _ _ hc483) ?_; clear hf
              rintro _ w ⟨rfl, hs1⟩ a hf
              have hs : St [] W w [.row A1 xs3.length xs3.length 2 1 (ints xs433)] := hs.ext hs1.below
              clear hs1
              have hs0 : St [] W w [.row A1 xs3.length xs3.length 2 1 (ints xs433)] := hs
              refine wpO_nil ⟨Or.inr (fun _ => hs0), ?_⟩
              refine mYp (i := 12) rfl (by kernel_rfl) (by kernel_rfl) hf rfl rfl rfl (fun _ => Y_max rfl rfl rfl) ?_; clear hf; intro a hf
              obtain ⟨q484, hi485, hm463⟩ := bind_some hm463
              obtain ⟨hi485a, hi485b, hi485q⟩ := idx_some hi485
              refine mYp (i := 13) rfl (by kernel_rfl) (by kernel_rfl) hf rfl rfl rfl (fun _ => Y_index rfl rfl rfl el23 ti2 (Rd.isAt (hs.rd (i := 0) rfl) (at1 (ints_at hi485q))) hi485a (ltn hn434 hi485b)) ?_; clear hf; intro a hf
              refine mRun (i := 14) rfl (by kernel_rfl) ?_
              obtain ⟨xs486, hu487, hm463⟩ := bind_some hm463
              refine sStoreL (i := 0) (us := [.int .i64 (max q478 r482)]) (enc := ints) hf hs rfl rfl rfl rfl rfl rfl hn434 hu487 ti2 rfl rfl rfl rfl rfl ints_len1 (ints_set (max q478 r482)) ?_; clear hs; intro w hs
              have hs : St [] W w [.row A1 xs3.length xs3.length 2 1 (ints xs486)] := hs
              refine wpO_nil ⟨Or.inl (by decide), ?_⟩
              refine mDone (by kernel_rfl) ?_
              clear hs0
              refine wpL_nil (Qb_normal ?_)
              refine wpL_region ?_
              refine sY hf hs rfl rfl rfl (Y_add rfl rfl rfl) ?_; clear hf; intro a hf
              refine sY hf hs rfl rfl rfl (Y_move rfl rfl) ?_; clear hf; intro a hf
              refine wpO_nil ?_
              refine wpL_nil (Ql_normal ?_)
              exact ⟨xs486, (IntKind.i64.wrap (x435 + 1)), hm463, ((hn434).trans (upd_len hu487).symm), (FrD.pick (FrD.pick (FrD.pick (FrD.pick (FrD.pick (FrD.pick (FrD.pick (FrD.pick (FrD.pick hf.none hf rfl) hf rfl) hf rfl) hf rfl) hf rfl) hf rfl) hf rfl) hf rfl) hf rfl), hs⟩
            · have hm463 := bif_f hm463 hb465
              refine wpL_exit (Ql_exit (Qb_exit ?_))
              exact ⟨xs433, Option.some.inj hm463, hn434, (FrD.pick (FrD.pick (FrD.pick (FrD.pick (FrD.pick hf.none hf rfl) hf rfl) hf rfl) hf rfl) hf rfl), hs⟩
        · rintro a w ⟨xs459, hr_, hn460, hf, hs⟩
          subst hr_
          try dsimp only at hm368
          refine wpL_nil (Qb_normal ?_)
          refine wpL_region ?_
          refine sY hf hs rfl rfl rfl (Y_add rfl rfl rfl) ?_; clear hf; intro a hf
          refine sY hf hs rfl rfl rfl (Y_move rfl rfl) ?_; clear hf; intro a hf
          refine wpO_nil ?_
          refine wpL_nil (Ql_normal ?_)
          exact ⟨xs459, (IntKind.i64.wrap (x245 + 1)), hm368, hn460, (FrD.pick (FrD.pick (FrD.pick (FrD.pick (FrD.pick hf.none hf rfl) hf rfl) hf rfl) hf rfl) hf rfl), hs⟩
      · have hm368 := bif_f hm368 hb370
        refine wpL_exit (Ql_exit (Qb_exit ?_))
        exact ⟨xs243, Option.some.inj hm368, hn244, (FrD.pick hf.none hf rfl), hs⟩
  · rintro a w ⟨xs364, hr_, hn365, hf, hs⟩
    subst hr_
    try dsimp only at hm
    refine wpL_seq ?_
    refine wpL_region ?_
    refine sY hf hs rfl rfl rfl (Y_move rfl rfl) ?_; clear hf; intro a hf
    refine sY hf hs rfl rfl rfl (Y_assign rfl rfl) ?_; clear hf; intro a hf
    refine wpO_nil ?_
    obtain rfl := Option.some.inj hm
    refine wpL_ret (ret_tmp rfl hf rfl ?_)
    exact ⟨_, rfl, A1, xs3.length, xs3.length, rfl, hn365, hs⟩

set_option maxRecDepth 100000 in
theorem impl_innerProduct_ok (F : Nat) (p0_a : List Int) (A_p0_a_1 : Option Addr) (n_p0_a_1 c_p0_a_1 : Nat) (hn_p0_a_1 : n_p0_a_1 = p0_a.length) (p1_b : List Int) (A_p1_b_1 : Option Addr) (n_p1_b_1 c_p1_b_1 : Nat) (hn_p1_b_1 : n_p1_b_1 = p1_b.length) (r : Int) (W : World) (hm : impl_innerProduct F p0_a p1_b = some r) (h_p0_a_1 : Rd W A_p0_a_1 (ints p0_a)) (h_p1_b_1 : Rd W A_p1_b_1 (ints p1_b)) :
    Calls Try.prog 85 [.slice A_p0_a_1 n_p0_a_1 c_p0_a_1, .slice A_p1_b_1 n_p1_b_1 c_p1_b_1].toArray W fun e w' => ∃ v, e = .returned v ∧ v = .int .i64 r ∧ St [] W w' [] := by
  subst hn_p0_a_1
  subst hn_p1_b_1
  unfold impl_innerProduct at hm
  refine Calls.enter (N := 25) Try.func85 rfl rfl rfl (fun a hf => ?_)
  have hs := St.start W
  obtain ⟨w, hw_⟩ : ∃ w, w = W := ⟨W, rfl⟩
  clear hw_ w
  refine wpL_seq ?_
  refine wpL_region ?_
  refine sY hf hs rfl rfl rfl (Y_assign rfl rfl) ?_; clear hf; intro a hf
  refine wpO_nil ?_
  refine wpL_seq ?_
  refine wpL_region ?_
  refine sY hf hs rfl rfl rfl (Y_assign rfl rfl) ?_; clear hf; intro a hf
  refine wpO_nil ?_
  refine wpL_seq ?_
  refine wpL_seq ?_
  refine wpL_region ?_
  refine sY hf hs rfl rfl rfl (Y_move rfl rfl) ?_; clear hf; intro a hf
  refine sY hf hs rfl rfl rfl (Y_lenH rfl rfl el23 rfl) ?_; clear hf; intro a hf
  refine sY hf hs rfl rfl rfl (Y_move rfl rfl) ?_; clear hf; intro a hf
  refine wpO_nil ?_
  obtain ⟨r27, hl28, hm⟩ := bind_some hm
  refine wpL_block (fun a w => ∃ x26 : Int, x26 = r27 ∧ Fr a 25 [(5, .int .i64 x26)] ∧ St [] W w []) ?_ ?_
  · refine wpL_loop (fun n a w => ∃ x17 : Int, ∃ x18 : Int, impl_innerProduct_L1 F p0_a p1_b n x17 x18 = some r27 ∧ Fr a 25 [(1, .slice A_p1_b_1 p1_b.length c_p1_b_1), (5, .int .i64 x17), (8, .slice A_p0_a_1 p0_a.length c_p0_a_1), (9, .int .i64 (p0_a.length : Int)), (10, .int .i64 x18)] ∧ St [] W w []) F ?_ ?_ ?_
    · exact ⟨(-1000000000000000), 0, hl28, (FrD.pick (FrD.pick (FrD.pick (FrD.pick (FrD.pick hf.none hf rfl) hf rfl) hf rfl) hf rfl) hf rfl), hs⟩
    · rintro a w ⟨x17, x18, h0_, -, -⟩; simp [impl_innerProduct_L1] at h0_
    · rintro n30 a w ⟨x17, x18, hm29, hf, hs⟩
      rw [impl_innerProduct_L1] at hm29
      refine wpL_seq ?_
      refine wpL_region ?_
      refine sY hf hs rfl rfl rfl (Y_lss rfl rfl rfl) ?_; clear hf; intro a hf
      refine wpO_nil ?_
      refine wpL_seq ?_
      refine wpL_cond hf rfl (fun hb31 => ?_) (fun hb31 => ?_)
      · have hm29 := bif_t hm29 hb31
        refine wpL_skip ?_
        refine wpL_seq ?_
        refine wpL_block0 ?_
        refine wpL_seq ?_
        refine wpL_region ?_
        refine sY hf hs rfl rfl rfl (Y_move rfl rfl) ?_; clear hf; intro a hf
        obtain ⟨q32, hi33, hm29⟩ := bind_some hm29
        obtain ⟨hi33a, hi33b, hi33q⟩ := idx_some hi33
        refine sY hf hs rfl rfl rfl (Y_index rfl rfl rfl el23 ti2 (Rd.isAt (h_p0_a_1.at hs) (at1 (ints_at hi33q))) hi33a hi33b) ?_; clear hf; intro a hf
        refine sY hf hs rfl rfl rfl (Y_load_rd rfl rfl (fun w hs => h_p0_a_1.at hs) (at1 (ints_at hi33q)) ag2) ?_; clear hf; intro a hf
        refine sY hf hs rfl rfl rfl (Y_assign rfl rfl) ?_; clear hf; intro a hf
        refine sY hf hs rfl rfl rfl (Y_assign rfl rfl) ?_; clear hf; intro a hf
        refine wpO_nil ?_
        refine wpL_region ?_
        refine sY hf hs rfl rfl rfl (Y_move rfl rfl) ?_; clear hf; intro a hf
        refine sY hf hs rfl rfl rfl (Y_move rfl rfl) ?_; clear hf; intro a hf
        refine sY hf hs rfl rfl rfl (Y_move rfl rfl) ?_; clear hf; intro a hf
        refine sY hf hs rfl rfl rfl (Y_move rfl rfl) ?_; clear hf; intro a hf
        obtain ⟨q34, hi35, hm29⟩ := bind_some hm29
        obtain ⟨hi35a, hi35b, hi35q⟩ := idx_some hi35
        refine sY hf hs rfl rfl rfl (Y_index rfl rfl rfl el23 ti2 (Rd.isAt (h_p1_b_1.at hs) (at1 (ints_at hi35q))) hi35a hi35b) ?_; clear hf; intro a hf
        refine sY hf hs rfl rfl rfl (Y_load_rd rfl rfl (fun w hs => h_p1_b_1.at hs) (at1 (ints_at hi35q)) ag2) ?_; clear hf; intro a hf
        obtain ⟨r36, hc37, hm29⟩ := bind_some hm29
        refine sCall hf rfl rfl rfl rfl (cap := []) rfl rfl en90 (impl_times_ok F q32 q34 _ _ hc37) ?_; clear hf
        rintro _ w ⟨rfl, hs1⟩ a hf
        have hs : St [] W w [] := hs.ext hs1.below
        clear hs1
        refine sY hf hs rfl rfl rfl (Y_max rfl rfl rfl) ?_; clear hf; intro a hf
        refine sY hf hs rfl rfl rfl (Y_assign rfl rfl) ?_; clear hf; intro a hf
        refine wpO_nil ?_
        refine wpL_nil (Qb_normal ?_)
        refine wpL_region ?_
        refine sY hf hs rfl rfl rfl (Y_add rfl rfl rfl) ?_; clear hf; intro a hf
        refine sY hf hs rfl rfl rfl (Y_move rfl rfl) ?_; clear hf; intro a hf
        refine wpO_nil ?_
        refine wpL_nil (Ql_normal ?_)
        exact ⟨(max x17 r36), (IntKind.i64.wrap (x18 + 1)), hm29, (FrD.pick (FrD.pick (FrD.pick (FrD.pick (FrD.pick hf.none hf rfl) hf rfl) hf rfl) hf rfl) hf rfl), hs⟩
      · have hm29 := bif_f hm29 hb31
        refine wpL_exit (Ql_exit (Qb_exit ?_))
        exact ⟨x17, Option.some.inj hm29, (FrD.pick hf.none hf rfl), hs⟩
  · rintro a w ⟨x26, hr_, hf, hs⟩
    subst hr_
    try dsimp only at hm
    refine wpL_seq ?_
    refine wpL_region ?_
    refine sY hf hs rfl rfl rfl (Y_move rfl rfl) ?_; clear hf; intro a hf
    refine sY hf hs rfl rfl rfl (Y_assign rfl rfl) ?_; clear hf; intro a hf
    refine wpO_nil ?_
    obtain rfl := Option.some.inj hm
    refine wpL_ret (ret_tmp rfl hf rfl ?_)
    exact ⟨_, rfl, rfl, hs⟩

set_option maxRecDepth 100000 in
theorem impl_SeriesSystem_c1_ok (F : Nat) (p0_i : Int) (p1_j : Int) (b_z0 : Nat) (z0 : GSystem) (A_z0_1 : Option Addr) (n_z0_1 c_z0_1 : Nat) (hn_z0_1 : n_z0_1 = z0.A.length) (A_z0_2 : Option Addr) (n_z0_2 c_z0_2 : Nat) (hn_z0_2 : n_z0_2 = z0.B.length) (A_z0_3 : Option Addr) (n_z0_3 c_z0_3 : Nat) (hn_z0_3 : n_z0_3 = z0.C.length) (b_z1 : Nat) (z1 : List Int) (A_z1_1 : Option Addr) (n_z1_1 c_z1_1 : Nat) (hn_z1_1 : n_z1_1 = z1.length) (r : Int) (W : World) (hm : impl_SeriesSystem_c1 F p0_i p1_j z0 z1 = some r) (_h_z0_1 : RdM W A_z0_1 z0.A) (h_z0_2 : Rd W A_z0_2 (ints z0.B)) (_h_z0_3 : Rd W A_z0_3 (ints z0.C)) (h_z0 : PB W b_z0 27 [.slice A_z0_1 n_z0_1 c_z0_1, .slice A_z0_2 n_z0_2 c_z0_2, .slice A_z0_3 n_z0_3 c_z0_3]) (h_z1_1 : Rd W A_z1_1 (ints z1)) (h_z1 : PB W b_z1 23 [.slice A_z1_1 n_z1_1 c_z1_1]) :
    Calls Try.prog 89 [.int .i64 p0_i, .int .i64 p1_j, .pointer (some ⟨b_z0, 0, none⟩), .pointer (some ⟨b_z1, 0, none⟩)].toArray W fun e w' => ∃ v, e = .returned v ∧ v = .int .i64 r ∧ St [] W w' [] := by
  subst hn_z0_1
  subst hn_z0_2
  subst hn_z0_3
  subst hn_z1_1
  unfold impl_SeriesSystem_c1 at hm
  refine Calls.enter (N := 17) Try.func89 rfl rfl rfl (fun a hf => ?_)
  have hs := St.start W
  obtain ⟨w, hw_⟩ : ∃ w, w = W := ⟨W, rfl⟩
  clear hw_ w
  refine wpL_seq ?_
  refine wpL_region ?_
  refine sY hf hs rfl rfl rfl (Y_assign rfl rfl) ?_; clear hf; intro a hf
  refine wpO_nil ?_
  refine wpL_seq ?_
  refine wpL_draw (by kernel_rfl) (by kernel_rfl) hs ?_
  refine qY hf rfl rfl rfl (Y_fieldAddr rfl rfl fo27_1) ?_; clear hf; intro a hf
  refine qY hf rfl rfl rfl (Y_load_pb rfl rfl h_z0 rfl ag23) ?_; clear hf; intro a hf
  refine qY hf rfl rfl rfl (Y_move rfl rfl) ?_; clear hf; intro a hf
  obtain ⟨q1, hi2, hm⟩ := bind_some hm
  obtain ⟨hi2a, hi2b, hi2q⟩ := idx_some hi2
  refine qY hf rfl rfl rfl (Y_index rfl rfl rfl el23 ti2 (Rd.isAt (h_z0_2.at hs) (at1 (ints_at hi2q))) hi2a hi2b) ?_; clear hf; intro a hf
  refine qY hf rfl rfl rfl (Y_load_rd rfl rfl (fun w hs => h_z0_2.at hs) (at1 (ints_at hi2q)) ag2) ?_; clear hf; intro a hf
  refine qY hf rfl rfl rfl (Y_load_pb rfl rfl h_z1 rfl ag23) ?_; clear hf; intro a hf
  refine qY hf rfl rfl rfl (Y_move rfl rfl) ?_; clear hf; intro a hf
  obtain ⟨q3, hi4, hm⟩ := bind_some hm
  obtain ⟨hi4a, hi4b, hi4q⟩ := idx_some hi4
  refine qY hf rfl rfl rfl (Y_index rfl rfl rfl el23 ti2 (Rd.isAt (h_z1_1.at hs) (at1 (ints_at hi4q))) hi4a hi4b) ?_; clear hf; intro a hf
  refine qY hf rfl rfl rfl (Y_load_rd rfl rfl (fun w hs => h_z1_1.at hs) (at1 (ints_at hi4q)) ag2) ?_; clear hf; intro a hf
  obtain ⟨r5, hc6, hm⟩ := bind_some hm
  refine qCall hf rfl rfl rfl rfl (cap := []) rfl rfl en90 (v := .int .i64 r5) (fun w hs => Calls.scal (impl_times_ok F q1 q3 _ _ hc6)) ?_; clear hf; intro a hf
  refine qY hf rfl rfl rfl (Y_assign rfl rfl) ?_; clear hf; intro a hf
  refine qNil ?_; clear hs; intro w hs
  obtain rfl := Option.some.inj hm
  refine wpL_ret (ret_tmp rfl hf rfl ?_)
  exact ⟨_, rfl, rfl, hs⟩

set_option maxRecDepth 100000 in
theorem impl_blocks_c1_ok (F : Nat) (p0_i : Int) (p1_j : Int) (b_z0 : Nat) (z0 : Int) (b_z1 : Nat) (z1 : List (List Int)) (A_z1_1 : Option Addr) (n_z1_1 c_z1_1 : Nat) (hn_z1_1 : n_z1_1 = z1.length) (b_z2 : Nat) (z2 : List (List Int)) (A_z2_1 : Option Addr) (n_z2_1 c_z2_1 : Nat) (hn_z2_1 : n_z2_1 = z2.length) (b_z3 : Nat) (m_z3 : Int → Int → Option Int) (f_z3 : FuncId) (k_z3 : List Value) (r : Int) (W : World) (hm : impl_blocks_c1 F p0_i p1_j z0 z1 z2 m_z3 = some r) (h_z0 : PB W b_z0 3 [.int .i64 z0]) (h_z1_1 : RdM W A_z1_1 z1) (h_z1 : PB W b_z1 22 [.slice A_z1_1 n_z1_1 c_z1_1]) (h_z2_1 : RdM W A_z2_1 z2) (h_z2 : PB W b_z2 22 [.slice A_z2_1 n_z2_1 c_z2_1]) (h_z3 : ∀ (x0 : Int) (x1 : Int) (r : Int) (w : World), m_z3 x0 x1 = some r → Below W.heap.size W w → Calls Try.prog f_z3 (([.int .i64 x0, .int .i64 x1] : List Value) ++ k_z3).toArray w fun e w' => ∃ v, e = .returned v ∧ v = .int .i64 r ∧ St [] w w' []) (e_z3 : En Try.prog f_z3) (hp_z3 : PB W b_z3 99 [.func (.func f_z3) #[] k_z3.toArray]) :
    Calls Try.prog 162 [.int .i64 p0_i, .int .i64 p1_j, .pointer (some ⟨b_z0, 0, none⟩), .pointer (some ⟨b_z1, 0, none⟩), .pointer (some ⟨b_z2, 0, none⟩), .pointer (some ⟨b_z3, 0, none⟩)].toArray W fun e w' => ∃ v, e = .returned v ∧ v = .int .i64 r ∧ St [] W w' [] := by
  subst hn_z1_1
  subst hn_z2_1
  unfold impl_blocks_c1 at hm
  refine Calls.enter (N := 55) Try.func162 rfl rfl rfl (fun a hf => ?_)
  have hs := St.start W
  obtain ⟨w, hw_⟩ : ∃ w, w = W := ⟨W, rfl⟩
  clear hw_ w
  refine wpL_seq ?_
  refine wpL_region ?_
  refine sY hf hs rfl rfl rfl (Y_assign rfl rfl) ?_; clear hf; intro a hf
  refine wpO_nil ?_
  refine wpL_seq ?_
  refine wpL_block0 ?_
  refine wpL_seq ?_
  obtain ⟨r3, hj4, hm⟩ := bind_some hm
  refine wpL_cut (fun a w => ∃ b2 : Bool, b2 = r3 ∧ Fr a 55 [(0, .int .i64 p0_i), (1, .int .i64 p1_j), (2, .pointer (some ⟨b_z0, 0, none⟩)), (3, .pointer (some ⟨b_z1, 0, none⟩)), (4, .pointer (some ⟨b_z2, 0, none⟩)), (5, .pointer (some ⟨b_z3, 0, none⟩)), (9, .bool b2)] ∧ St [] W w []) ?_ ?_
  · refine wpL_region ?_
    refine sY hf hs rfl rfl rfl (Y_move rfl rfl) ?_; clear hf; intro a hf
    refine sY hf hs rfl rfl rfl (Y_load_pb rfl rfl h_z0 rfl ag3) ?_; clear hf; intro a hf
    refine sY hf hs rfl rfl rfl (Y_lss rfl rfl rfl) ?_; clear hf; intro a hf
    refine sY hf hs rfl rfl rfl (Y_move rfl rfl) ?_; clear hf; intro a hf
    refine bsplit (decide (p0_i < z0)) (fun hb5 => ?_) (fun hb5 => ?_)
    · have hj4 := bif_t hj4 hb5
      refine sYg hf hs rfl rfl rfl (congrArg (fun b => some (Value.bool b)) hb5) rfl rfl rfl (Y_move rfl rfl) ?_; clear hf; intro a hf
      refine sYg hf hs rfl rfl rfl (congrArg (fun b => some (Value.bool b)) hb5) rfl rfl rfl (Y_load_pb rfl rfl h_z0 rfl ag3) ?_; clear hf; intro a hf
      refine sYg hf hs rfl rfl rfl (congrArg (fun b => some (Value.bool b)) hb5) rfl rfl rfl (Y_lss rfl rfl rfl) ?_; clear hf; intro a hf
      refine sY hf hs rfl rfl rfl (Y_pickT rfl (congrArg (fun b => some (Value.bool b)) hb5) rfl) ?_; clear hf; intro a hf
      refine sY hf hs rfl rfl rfl (Y_assign rfl rfl) ?_; clear hf; intro a hf
      refine wpO_nil ?_
      refine wpL_nil (then_normal ?_)
      exact ⟨(decide (p1_j < z0)), Option.some.inj hj4, (FrD.pick (FrD.pick (FrD.pick (FrD.pick (FrD.pick (FrD.pick (FrD.pick hf.none hf rfl) hf rfl) hf rfl) hf rfl) hf rfl) hf rfl) hf rfl), hs⟩
    · have hj4 := bif_f hj4 hb5
      refine sNo hf rfl rfl rfl (congrArg (fun b => some (Value.bool b)) hb5) rfl rfl rfl ?_; clear hf; intro a hf
      refine sNo hf rfl rfl rfl (congrArg (fun b => some (Value.bool b)) hb5) rfl rfl rfl ?_; clear hf; intro a hf
      refine sNo hf rfl rfl rfl (congrArg (fun b => some (Value.bool b)) hb5) rfl rfl rfl ?_; clear hf; intro a hf
      refine sY hf hs rfl rfl rfl (Y_pickF rfl (congrArg (fun b => some (Value.bool b)) hb5) rfl) ?_; clear hf; intro a hf
      refine sY hf hs rfl rfl rfl (Y_assign rfl rfl) ?_; clear hf; intro a hf
      refine wpO_nil ?_
      refine wpL_nil (then_normal ?_)
      exact ⟨false, Option.some.inj hj4, (FrD.pick (FrD.pick (FrD.pick (FrD.pick (FrD.pick (FrD.pick (FrD.pick hf.none hf rfl) hf rfl) hf rfl) hf rfl) hf rfl) hf rfl) hf rfl), hs⟩
  · rintro a w ⟨b2, hr_, hf, hs⟩
    subst hr_
    try dsimp only at hm
    refine wpL_cond hf rfl (fun hb6 => ?_) (fun hb6 => ?_)
    · have hm := bif_t hm hb6
      refine wpL_seq ?_
      refine wpL_region ?_
      refine sY hf hs rfl rfl rfl (Y_load_pb rfl rfl h_z1 rfl ag22) ?_; clear hf; intro a hf
      refine sY hf hs rfl rfl rfl (Y_move rfl rfl) ?_; clear hf; intro a hf
      obtain ⟨q7, hi8, hm⟩ := bind_some hm
      obtain ⟨hi8a, hi8b, hi8q⟩ := idx_some hi8
      obtain ⟨vs9, hv10, hr11⟩ := id h_z1_1
      obtain ⟨A12, c13, hv14, hR15⟩ := hr11 _ _ hi8q
      refine sY hf hs rfl rfl rfl (Y_index rfl rfl rfl el22 ti23 (Rd.isAt hv10 hv14) hi8a hi8b) ?_; clear hf; intro a hf
      refine sY hf hs rfl rfl rfl (Y_load_rd rfl rfl (fun w hs => hv10.at hs) (at1 hv14) ag23) ?_; clear hf; intro a hf
      refine sY hf hs rfl rfl rfl (Y_move rfl rfl) ?_; clear hf; intro a hf
      obtain ⟨q16, hi17, hm⟩ := bind_some hm
      obtain ⟨hi17a, hi17b, hi17q⟩ := idx_some hi17
      refine sY hf hs rfl rfl rfl (Y_index rfl rfl rfl el23 ti2 (Rd.isAt (hR15.at hs) (at1 (ints_at hi17q))) hi17a hi17b) ?_; clear hf; intro a hf
      refine sY hf hs rfl rfl rfl (Y_load_rd rfl rfl (fun w hs => hR15.at hs) (at1 (ints_at hi17q)) ag2) ?_; clear hf; intro a hf
      refine sY hf hs rfl rfl rfl (Y_assign rfl rfl) ?_; clear hf; intro a hf
      refine wpO_nil ?_
      obtain rfl := Option.some.inj hm
      refine wpL_ret (Qb_ret (ret_tmp rfl hf rfl ?_))
      exact ⟨_, rfl, rfl, hs⟩
    · have hm := bif_f hm hb6
      refine wpL_seq ?_
      obtain ⟨r20, hj21, hm⟩ := bind_some hm
      refine wpL_cut (fun a w => ∃ b19 : Bool, b19 = r20 ∧ Fr a 55 [(0, .int .i64 p0_i), (1, .int .i64 p1_j), (2, .pointer (some ⟨b_z0, 0, none⟩)), (4, .pointer (some ⟨b_z2, 0, none⟩)), (5, .pointer (some ⟨b_z3, 0, none⟩)), (25, .bool b19)] ∧ St [] W w []) ?_ ?_
      · refine wpL_region ?_
        refine sY hf hs rfl rfl rfl (Y_move rfl rfl) ?_; clear hf; intro a hf
        refine sY hf hs rfl rfl rfl (Y_load_pb rfl rfl h_z0 rfl ag3) ?_; clear hf; intro a hf
        refine sY hf hs rfl rfl rfl (Y_geq rfl rfl rfl) ?_; clear hf; intro a hf
        refine sY hf hs rfl rfl rfl (Y_move rfl rfl) ?_; clear hf; intro a hf
        refine bsplit (decide (z0 ≤ p0_i)) (fun hb22 => ?_) (fun hb22 => ?_)
        · have hj21 := bif_t hj21 hb22
          refine sYg hf hs rfl rfl rfl (congrArg (fun b => some (Value.bool b)) hb22) rfl rfl rfl (Y_move rfl rfl) ?_; clear hf; intro a hf
          refine sYg hf hs rfl rfl rfl (congrArg (fun b => some (Value.bool b)) hb22) rfl rfl rfl (Y_load_pb rfl rfl h_z0 rfl ag3) ?_; clear hf; intro a hf
          refine sYg hf hs rfl rfl rfl (congrArg (fun b => some (Value.bool b)) hb22) rfl rfl rfl (Y_geq rfl rfl rfl) ?_; clear hf; intro a hf
          refine sY hf hs rfl rfl rfl (Y_pickT rfl (congrArg (fun b => some (Value.bool b)) hb22) rfl) ?_; clear hf; intro a hf
          refine sY hf hs rfl rfl rfl (Y_assign rfl rfl) ?_; clear hf; intro a hf
          refine wpO_nil ?_
          refine wpL_nil (then_normal ?_)
          exact ⟨(decide (z0 ≤ p1_j)), Option.some.inj hj21, (FrD.pick (FrD.pick (FrD.pick (FrD.pick (FrD.pick (FrD.pick hf.none hf rfl) hf rfl) hf rfl) hf rfl) hf rfl) hf rfl), hs⟩
        · have hj21 := bif_f hj21 hb22
          refine sNo hf rfl rfl rfl (congrArg (fun b => some (Value.bool b)) hb22) rfl rfl rfl ?_; clear hf; intro a hf
          refine sNo hf rfl rfl rfl (congrArg (fun b => some (Value.bool b)) hb22) rfl rfl rfl ?_; clear hf; intro a hf
          refine sNo hf rfl rfl rfl (congrArg (fun b => some (Value.bool b)) hb22) rfl rfl rfl ?_; clear hf; intro a hf
          refine sY hf hs rfl rfl rfl (Y_pickF rfl (congrArg (fun b => some (Value.bool b)) hb22) rfl) ?_; clear hf; intro a hf
          refine sY hf hs rfl rfl rfl (Y_assign rfl rfl) ?_; clear hf; intro a hf
          refine wpO_nil ?_
          refine wpL_nil (then_normal ?_)
          exact ⟨false, Option.some.inj hj21, (FrD.pick (FrD.pick (FrD.pick (FrD.pick (FrD.pick (FrD.pick hf.none hf rfl) hf rfl) hf rfl) hf rfl) hf rfl) hf rfl), hs⟩
      · rintro a w ⟨b19, hr_, hf, hs⟩
        subst hr_
        try dsimp only at hm
        refine wpL_cond hf rfl (fun hb23 => ?_) (fun hb23 => ?_)
        · have hm := bif_t hm hb23
          refine wpL_seq ?_
          refine wpL_draw (by kernel_rfl) (by kernel_rfl) hs ?_
          refine qY hf rfl rfl rfl (Y_load_pb rfl rfl h_z2 rfl ag22) ?_; clear hf; intro a hf
          refine qY hf rfl rfl rfl (Y_move rfl rfl) ?_; clear hf; intro a hf
          refine qY hf rfl rfl rfl (Y_load_pb rfl rfl h_z0 rfl ag3) ?_; clear hf; intro a hf
          refine qY hf rfl rfl rfl (Y_sub rfl rfl rfl) ?_; clear hf; intro a hf
          obtain ⟨q24, hi25, hm⟩ := bind_some hm
          obtain ⟨hi25a, hi25b, hi25q⟩ := idx_some hi25
          obtain ⟨vs26, hv27, hr28⟩ := id h_z2_1
          obtain ⟨A29, c30, hv31, hR32⟩ := hr28 _ _ hi25q
          refine qY hf rfl rfl rfl (Y_index rfl rfl rfl el22 ti23 (Rd.isAt hv27 hv31) hi25a hi25b) ?_; clear hf; intro a hf
          refine qY hf rfl rfl rfl (Y_load_rd rfl rfl (fun w hs => hv27.at hs) (at1 hv31) ag23) ?_; clear hf; intro a hf
          refine qY hf rfl rfl rfl (Y_move rfl rfl) ?_; clear hf; intro a hf
          refine qY hf rfl rfl rfl (Y_load_pb rfl rfl h_z0 rfl ag3) ?_; clear hf; intro a hf
          refine qY hf rfl rfl rfl (Y_sub rfl rfl rfl) ?_; clear hf; intro a hf
          obtain ⟨q33, hi34, hm⟩ := bind_some hm
          obtain ⟨hi34a, hi34b, hi34q⟩ := idx_some hi34
          refine qY hf rfl rfl rfl (Y_index rfl rfl rfl el23 ti2 (Rd.isAt (hR32.at hs) (at1 (ints_at hi34q))) hi34a hi34b) ?_; clear hf; intro a hf
          refine qY hf rfl rfl rfl (Y_load_rd rfl rfl (fun w hs => hR32.at hs) (at1 (ints_at hi34q)) ag2) ?_; clear hf; intro a hf
          refine qY hf rfl rfl rfl (Y_assign rfl rfl) ?_; clear hf; intro a hf
          refine qNil ?_; clear hs; intro w hs
          obtain rfl := Option.some.inj hm
          refine wpL_ret (Qb_ret (ret_tmp rfl hf rfl ?_))
          exact ⟨_, rfl, rfl, hs⟩
        · have hm := bif_f hm hb23
          refine wpL_seq ?_
          refine wpL_region ?_
          refine sY hf hs rfl rfl rfl (Y_move rfl rfl) ?_; clear hf; intro a hf
          refine sY hf hs rfl rfl rfl (Y_load_pb rfl rfl h_z0 rfl ag3) ?_; clear hf; intro a hf
          refine sY hf hs rfl rfl rfl (Y_geq rfl rfl rfl) ?_; clear hf; intro a hf
          refine sY hf hs rfl rfl rfl (Y_assign rfl rfl) ?_; clear hf; intro a hf
          refine wpO_nil ?_
          refine wpL_cond hf rfl (fun hb35 => ?_) (fun hb35 => ?_)
          · have hm := bif_t hm hb35
            refine wpL_seq ?_
            refine wpL_region ?_
            refine sY hf hs rfl rfl rfl (Y_load_pb rfl rfl hp_z3 rfl ag99) ?_; clear hf; intro a hf
            refine sY hf hs rfl rfl rfl (Y_move rfl rfl) ?_; clear hf; intro a hf
            refine sY hf hs rfl rfl rfl (Y_load_pb rfl rfl h_z0 rfl ag3) ?_; clear hf; intro a hf
            refine sY hf hs rfl rfl rfl (Y_sub rfl rfl rfl) ?_; clear hf; intro a hf
            refine sY hf hs rfl rfl rfl (Y_move rfl rfl) ?_; clear hf; intro a hf
            obtain ⟨r36, hc37, hm⟩ := bind_some hm
            refine sCall hf rfl rfl rfl rfl (cap := k_z3) rfl rfl e_z3 (h_z3 (IntKind.i64.wrap (p0_i - z0)) p1_j _ _ hc37 hs.below) ?_; clear hf; rintro _ w ⟨rfl, hs1⟩ a hf; have hs := hs.ext hs1.below; clear hs1
            refine sY hf hs rfl rfl rfl (Y_assign rfl rfl) ?_; clear hf; intro a hf
            refine wpO_nil ?_
            obtain rfl := Option.some.inj hm
            refine wpL_ret (Qb_ret (ret_tmp rfl hf rfl ?_))
            exact ⟨_, rfl, rfl, hs⟩
          · have hm := bif_f hm hb35
            refine wpL_skip ?_
            refine wpL_nil (Qb_normal ?_)
            refine wpL_seq ?_
            refine wpL_region ?_
            refine sY hf hs rfl rfl rfl (Y_assign rfl rfl) ?_; clear hf; intro a hf
            refine wpO_nil ?_
            obtain rfl := Option.some.inj hm
            refine wpL_ret (ret_tmp rfl hf rfl ?_)
            exact ⟨_, rfl, rfl, hs⟩

set_option maxRecDepth 100000 in
theorem impl_blocks_ok (F : Nat) (p0_a : List (List Int)) (A_p0_a_1 : Option Addr) (n_p0_a_1 c_p0_a_1 : Nat) (hn_p0_a_1 : n_p0_a_1 = p0_a.length) (p1_b : List (List Int)) (A_p1_b_1 : Option Addr) (n_p1_b_1 c_p1_b_1 : Nat) (hn_p1_b_1 : n_p1_b_1 = p1_b.length) (m_p2_below : Int → Int → Option Int) (f_p2_below : FuncId) (k_p2_below : List Value) (r : List (List Int)) (W : World) (hm : impl_blocks F p0_a p1_b m_p2_below = some r) (h_p0_a_1 : RdM W A_p0_a_1 p0_a) (h_p1_b_1 : RdM W A_p1_b_1 p1_b) (h_p2_below : ∀ (x0 : Int) (x1 : Int) (r : Int) (w : World), m_p2_below x0 x1 = some r → Below W.heap.size W w → Calls Try.prog f_p2_below (([.int .i64 x0, .int .i64 x1] : List Value) ++ k_p2_below).toArray w fun e w' => ∃ v, e = .returned v ∧ v = .int .i64 r ∧ St [] w w' []) (e_p2_below : En Try.prog f_p2_below) :
    Calls Try.prog 88 [.slice A_p0_a_1 n_p0_a_1 c_p0_a_1, .slice A_p1_b_1 n_p1_b_1 c_p1_b_1, .func (.func f_p2_below) #[] k_p2_below.toArray].toArray W fun e w' => ∃ v, e = .returned v ∧ ∃ A12, ∃ n13, ∃ c14, ∃ vs16, v = .slice A12 n13 c14 ∧ n13 = r.length ∧ St [] W w' [.mat A12 n13 c14 23 2 vs16 r] := by
  subst hn_p0_a_1
  subst hn_p1_b_1
  unfold impl_blocks at hm
  refine Calls.enter (N := 20) Try.func88 rfl rfl rfl (fun a hf => ?_)
  have hs := St.start W
  obtain ⟨w, hw_⟩ : ∃ w, w = W := ⟨W, rfl⟩
  clear hw_ w
  refine wpL_seq ?_
  refine wpL_region ?_
  refine sBox hf hs rfl rfl rfl rfl rfl (cs := [.slice A_p0_a_1 p0_a.length c_p0_a_1]) rfl ?_; clear hf hs; intro a w b1 hs hf
  have hs : St [] W w [.blk b1 22 [.slice A_p0_a_1 p0_a.length c_p0_a_1]] := hs
  refine sBox hf hs rfl rfl rfl rfl rfl (cs := [.slice A_p1_b_1 p1_b.length c_p1_b_1]) rfl ?_; clear hf hs; intro a w b2 hs hf
  have hs : St [] W w [.blk b1 22 [.slice A_p0_a_1 p0_a.length c_p0_a_1], .blk b2 22 [.slice A_p1_b_1 p1_b.length c_p1_b_1]] := hs
  refine sBox hf hs rfl rfl rfl rfl rfl (cs := [.func (.func f_p2_below) #[] k_p2_below.toArray]) rfl ?_; clear hf hs; intro a w b3 hs hf
  have hs : St [] W w [.blk b1 22 [.slice A_p0_a_1 p0_a.length c_p0_a_1], .blk b2 22 [.slice A_p1_b_1 p1_b.length c_p1_b_1], .blk b3 99 [.func (.func f_p2_below) #[] k_p2_below.toArray]] := hs
  refine sY hf hs rfl rfl rfl (Y_assign rfl rfl) ?_; clear hf; intro a hf
  refine wpO_nil ?_
  refine wpL_seq ?_
  refine wpL_region ?_
  refine sY hf hs rfl rfl rfl (Y_load_blk rfl rfl (i := 0) rfl rfl ag22) ?_; clear hf; intro a hf
  refine sY hf hs rfl rfl rfl (Y_lenH rfl rfl el22 rfl) ?_; clear hf; intro a hf
  refine sAlloc hf hs rfl rfl rfl rfl ti3 ?_; clear hf hs; intro a w b4 hs hf
  have hs : St [] W w [.blk b1 22 [.slice A_p0_a_1 p0_a.length c_p0_a_1], .blk b2 22 [.slice A_p1_b_1 p1_b.length c_p1_b_1], .blk b3 99 [.func (.func f_p2_below) #[] k_p2_below.toArray], .blk b4 3 [.int .i64 0]] := hs
  refine sStore (i := 3) (us := [.int .i64 (p0_a.length : Int)]) hf hs rfl rfl rfl rfl rfl rfl ti3 rfl rfl rfl (Nat.le_of_ble_eq_true rfl) rfl ?_; clear hs; intro w hs
  have hs : St [] W w [.blk b1 22 [.slice A_p0_a_1 p0_a.length c_p0_a_1], .blk b2 22 [.slice A_p1_b_1 p1_b.length c_p1_b_1], .blk b3 99 [.func (.func f_p2_below) #[] k_p2_below.toArray], .blk b4 3 [.int .i64 (p0_a.length : Int)]] := hs
  refine wpO_nil ?_
  refine wpL_seq ?_
  refine wpL_region ?_
  refine sY hf hs rfl rfl rfl (Y_load_blk rfl rfl (i := 3) rfl rfl ag3) ?_; clear hf; intro a hf
  refine sY hf hs rfl rfl rfl (Y_load_blk rfl rfl (i := 1) rfl rfl ag22) ?_; clear hf; intro a hf
  refine sY hf hs rfl rfl rfl (Y_lenH rfl rfl el22 rfl) ?_; clear hf; intro a hf
  refine sY hf hs rfl rfl rfl (Y_add rfl rfl rfl) ?_; clear hf; intro a hf
  refine sY hf hs rfl rfl rfl (Y_load_blk rfl rfl (i := 3) rfl rfl ag3) ?_; clear hf; intro a hf
  refine sY hf hs rfl rfl rfl (Y_load_blk rfl rfl (i := 1) rfl rfl ag22) ?_; clear hf; intro a hf
  refine sY hf hs rfl rfl rfl (Y_lenH rfl rfl el22 rfl) ?_; clear hf; intro a hf
  refine sY hf hs rfl rfl rfl (Y_add rfl rfl rfl) ?_; clear hf; intro a hf
  refine sY hf hs rfl rfl rfl (Y_makeFunc (us := []) (vs := [.pointer (some ⟨b4, 0, none⟩), .pointer (some ⟨b1, 0, none⟩), .pointer (some ⟨b2, 0, none⟩), .pointer (some ⟨b3, 0, none⟩)]) rfl rfl rfl) ?_; clear hf; intro a hf
  obtain ⟨r5, hc6, hm⟩ := bind_some hm
  refine sCall hf rfl rfl rfl rfl (cap := []) rfl rfl en157 (impl_matrixBy_ok F (IntKind.i64.wrap ((p0_a.length : Int) + (p1_b.length : Int))) (IntKind.i64.wrap ((p0_a.length : Int) + (p1_b.length : Int))) (fun x0 x1 => impl_blocks_c1 F x0 x1 (p0_a.length : Int) p0_a p1_b m_p2_below) 162 ([.pointer (some ⟨b4, 0, none⟩), .pointer (some ⟨b1, 0, none⟩), .pointer (some ⟨b2, 0, none⟩), .pointer (some ⟨b3, 0, none⟩)]) _ _ hc6 (fun x0 x1 r w' hm_ hb => impl_blocks_c1_ok F x0 x1 b4 (p0_a.length : Int) b1 p0_a A_p0_a_1 p0_a.length c_p0_a_1 rfl b2 p1_b A_p1_b_1 p1_b.length c_p1_b_1 rfl b3 m_p2_below f_p2_below k_p2_below r w' hm_ ((hs.pb (i := 3) rfl).below hb (Nat.le_refl _)) ((h_p0_a_1.at hs).below hb (Nat.le_refl _)) ((hs.pb (i := 0) rfl).below hb (Nat.le_refl _)) ((h_p1_b_1.at hs).below hb (Nat.le_refl _)) ((hs.pb (i := 1) rfl).below hb (Nat.le_refl _)) (fun y0 y1 r2 w2 hm2_ hb2 => h_p2_below y0 y1 r2 w2 hm2_ (hs.below.trans ((hb.trans (hb2.mono hb.size)).mono hs.below.size))) e_p2_below ((hs.pb (i := 2) rfl).below hb (Nat.le_refl _))) en162) ?_; clear hf
  rintro _ w ⟨A7, n8, c9, vs11, rfl, hn10, hs1⟩ a hf
  have hs : St [] W w [.blk b1 22 [.slice A_p0_a_1 p0_a.length c_p0_a_1], .blk b2 22 [.slice A_p1_b_1 p1_b.length c_p1_b_1], .blk b3 99 [.func (.func f_p2_below) #[] k_p2_below.toArray], .blk b4 3 [.int .i64 (p0_a.length : Int)], .mat A7 n8 c9 23 2 vs11 r5] := hs.join hs1
  clear hs1
  refine sY hf hs rfl rfl rfl (Y_assign rfl rfl) ?_; clear hf; intro a hf
  refine wpO_nil ?_
  obtain rfl := Option.some.inj hm
  refine wpL_ret (ret_tmp rfl hf rfl ?_)
  exact ⟨_, rfl, A7, n8, c9, vs11, rfl, hn10, hs.sel [4] (by decide)⟩

set_option maxRecDepth 100000 in
theorem slices_Clone_int64_ok (F : Nat) (p0_s : List Int) (A_p0_s_1 : Option Addr) (n_p0_s_1 c_p0_s_1 : Nat) (hn_p0_s_1 : n_p0_s_1 = p0_s.length) (r : List Int) (W : World) (hm : slices_Clone_int64 F p0_s = some r) (h_p0_s_1 : Rd W A_p0_s_1 (ints p0_s)) :
    Calls Try.prog 91 [.slice A_p0_s_1 n_p0_s_1 c_p0_s_1].toArray W fun e w' => ∃ v, e = .returned v ∧ ∃ A7, ∃ n8, ∃ c9, v = .slice A7 n8 c9 ∧ n8 = r.length ∧ St [] W w' [.row A7 n8 c9 2 1 (ints r)] := by
  subst hn_p0_s_1
  cases A_p0_s_1 with
  | none =>
    obtain rfl : p0_s = [] := rd_none_ints h_p0_s_1
    have hm : some ([] : List Int) = some r := hm
    refine Calls.enter (N := 8) Try.func91 rfl rfl rfl (fun a hf => ?_)
    have hs := St.start W
    obtain ⟨w, hw_⟩ : ∃ w, w = W := ⟨W, rfl⟩
    clear hw_ w
    refine wpL_seq ?_
    refine wpL_region ?_
    refine sY hf hs rfl rfl rfl (Y_assign rfl rfl) ?_; clear hf; intro a hf
    refine wpO_nil ?_
    refine wpL_seq ?_
    refine wpL_seq ?_
    refine wpL_region ?_
    refine sY hf hs rfl rfl rfl (Y_move rfl rfl) ?_; clear hf; intro a hf
    refine sY hf hs rfl rfl rfl (Y_eqnil rfl rfl rfl un23) ?_; clear hf; intro a hf
    refine wpO_nil ?_
    refine wpL_cond hf rfl (fun _ => ?_) (fun e => absurd e (by decide))
    refine wpL_seq ?_
    refine wpL_region ?_
    refine sY hf hs rfl rfl rfl (Y_assign rfl rfl) ?_; clear hf; intro a hf
    refine wpO_nil ?_
    have hs : St [] W _ [.row none 0 0 2 1 (ints ([] : List Int))] := hs.addNil 2 1
    obtain rfl := Option.some.inj hm
    refine wpL_ret (ret_tmp rfl hf rfl ?_)
    exact ⟨_, rfl, none, 0, 0, rfl, rfl, hs⟩
  | some a_ =>
    unfold slices_Clone_int64 at hm
    refine Calls.enter (N := 8) Try.func91 rfl rfl rfl (fun a hf => ?_)
    have hs := St.start W
    obtain ⟨w, hw_⟩ : ∃ w, w = W := ⟨W, rfl⟩
    clear hw_ w
    refine wpL_seq ?_
    refine wpL_region ?_
    refine sY hf hs rfl rfl rfl (Y_assign rfl rfl) ?_; clear hf; intro a hf
    refine wpO_nil ?_
    refine wpL_seq ?_
    refine wpL_seq ?_
    refine wpL_region ?_
    refine sY hf hs rfl rfl rfl (Y_move rfl rfl) ?_; clear hf; intro a hf
    refine sY hf hs rfl rfl rfl (Y_eqnil rfl rfl rfl un23) ?_; clear hf; intro a hf
    refine wpO_nil ?_
    refine wpL_cond hf rfl (fun e => absurd e Bool.false_ne_true) (fun _ => ?_)
    refine wpL_skip ?_
    refine wpL_seq ?_
    refine wpL_region ?_
    refine sEmpty hf hs rfl rfl rfl rfl el23 ti2 ?_; clear hf hs; intro a w A1 hs hf
    have hs : St [] W w [.row A1 0 0 2 1 (ints ([] : List Int))] := hs
    refine sY hf hs rfl rfl rfl (Y_move rfl rfl) ?_; clear hf; intro a hf
    obtain ⟨xs5, ha6, hm⟩ := bind_some hm
    refine sAppendG (i := 0) (xs := ([] : List Int)) (ys := p0_s) (enc := ints) hf hs rfl rfl rfl rfl rfl rfl rfl rfl rfl ha6 el23 ti2 rfl rfl rfl (h_p0_s_1.at hs) ints_len1 ints_append ints_one ?_; clear hf hs; intro a w A3 c4 hs hf
    have hs : St [] W w [.row A3 xs5.length c4 2 1 (ints xs5)] := hs
    refine sY hf hs rfl rfl rfl (Y_assign rfl rfl) ?_; clear hf; intro a hf
    refine wpO_nil ?_
    obtain rfl := Option.some.inj hm
    refine wpL_ret (ret_tmp rfl hf rfl ?_)
    exact ⟨_, rfl, A3, xs5.length, c4, rfl, rfl, hs⟩

set_option maxRecDepth 100000 in
theorem math_bits_Mul64_ok (F : Nat) (p0_x : Int) (p1_y : Int) (r : Int × Int) (W : World) (hm : math_bits_Mul64 F p0_x p1_y = some r) :
    Calls Try.prog 183 [.int .u64 p0_x, .int .u64 p1_y].toArray W fun e w' => ∃ v, e = .returned v ∧ v = .tuple #[.int .u64 r.1, .int .u64 r.2] ∧ St [] W w' [] := by
  unfold math_bits_Mul64 at hm
  refine Calls.enter (N := 51) Try.func183 rfl rfl rfl (fun a hf => ?_)
  have hs := St.start W
  obtain ⟨w, hw_⟩ : ∃ w, w = W := ⟨W, rfl⟩
  clear hw_ w
  refine wpL_seq ?_
  refine wpL_region ?_
  refine sY hf hs rfl rfl rfl (Y_assign rfl rfl) ?_; clear hf; intro a hf
  refine sY hf hs rfl rfl rfl (Y_assign rfl rfl) ?_; clear hf; intro a hf
  refine wpO_nil ?_
  refine wpL_seq ?_
  refine wpL_region ?_
  refine sY hf hs rfl rfl rfl (Y_move rfl rfl) ?_; clear hf; intro a hf
  refine sY hf hs rfl rfl rfl (Y_and rfl rfl rfl) ?_; clear hf; intro a hf
  refine sY hf hs rfl rfl rfl (Y_assign rfl rfl) ?_; clear hf; intro a hf
  refine wpO_nil ?_
  refine wpL_seq ?_
  refine wpL_region ?_
  refine sY hf hs rfl rfl rfl (Y_move rfl rfl) ?_; clear hf; intro a hf
  refine sY hf hs rfl rfl rfl (Y_shr rfl rfl rfl (by decide) (by decide)) ?_; clear hf; intro a hf
  refine sY hf hs rfl rfl rfl (Y_assign rfl rfl) ?_; clear hf; intro a hf
  refine wpO_nil ?_
  refine wpL_seq ?_
  refine wpL_region ?_
  refine sY hf hs rfl rfl rfl (Y_move rfl rfl) ?_; clear hf; intro a hf
  refine sY hf hs rfl rfl rfl (Y_and rfl rfl rfl) ?_; clear hf; intro a hf
  refine sY hf hs rfl rfl rfl (Y_assign rfl rfl) ?_; clear hf; intro a hf
  refine wpO_nil ?_
  refine wpL_seq ?_
  refine wpL_region ?_
  refine sY hf hs rfl rfl rfl (Y_move rfl rfl) ?_; clear hf; intro a hf
  refine sY hf hs rfl rfl rfl (Y_shr rfl rfl rfl (by decide) (by decide)) ?_; clear hf; intro a hf
  refine sY hf hs rfl rfl rfl (Y_assign rfl rfl) ?_; clear hf; intro a hf
  refine wpO_nil ?_
  refine wpL_seq ?_
  refine wpL_region ?_
  refine sY hf hs rfl rfl rfl (Y_move rfl rfl) ?_; clear hf; intro a hf
  refine sY hf hs rfl rfl rfl (Y_move rfl rfl) ?_; clear hf; intro a hf
  refine sY hf hs rfl rfl rfl (Y_mul rfl rfl rfl) ?_; clear hf; intro a hf
  refine sY hf hs rfl rfl rfl (Y_assign rfl rfl) ?_; clear hf; intro a hf
  refine wpO_nil ?_
  refine wpL_seq ?_
  refine wpL_region ?_
  refine sY hf hs rfl rfl rfl (Y_move rfl rfl) ?_; clear hf; intro a hf
  refine sY hf hs rfl rfl rfl (Y_move rfl rfl) ?_; clear hf; intro a hf
  refine sY hf hs rfl rfl rfl (Y_mul rfl rfl rfl) ?_; clear hf; intro a hf
  refine sY hf hs rfl rfl rfl (Y_move rfl rfl) ?_; clear hf; intro a hf
  refine sY hf hs rfl rfl rfl (Y_shr rfl rfl rfl (by decide) (by decide)) ?_; clear hf; intro a hf
  refine sY hf hs rfl rfl rfl (Y_add rfl rfl rfl) ?_; clear hf; intro a hf
  refine sY hf hs rfl rfl rfl (Y_assign rfl rfl) ?_; clear hf; intro a hf
  refine wpO_nil ?_
  refine wpL_seq ?_
  refine wpL_region ?_
  refine sY hf hs rfl rfl rfl (Y_move rfl rfl) ?_; clear hf; intro a hf
  refine sY hf hs rfl rfl rfl (Y_and rfl rfl rfl) ?_; clear hf; intro a hf
  refine sY hf hs rfl rfl rfl (Y_assign rfl rfl) ?_; clear hf; intro a hf
  refine wpO_nil ?_
  refine wpL_seq ?_
  refine wpL_region ?_
  refine sY hf hs rfl rfl rfl (Y_move rfl rfl) ?_; clear hf; intro a hf
  refine sY hf hs rfl rfl rfl (Y_shr rfl rfl rfl (by decide) (by decide)) ?_; clear hf; intro a hf
  refine sY hf hs rfl rfl rfl (Y_assign rfl rfl) ?_; clear hf; intro a hf
  refine wpO_nil ?_
  refine wpL_seq ?_
  refine wpL_region ?_
  refine sY hf hs rfl rfl rfl (Y_move rfl rfl) ?_; clear hf; intro a hf
  refine sY hf hs rfl rfl rfl (Y_move rfl rfl) ?_; clear hf; intro a hf
  refine sY hf hs rfl rfl rfl (Y_move rfl rfl) ?_; clear hf; intro a hf
  refine sY hf hs rfl rfl rfl (Y_mul rfl rfl rfl) ?_; clear hf; intro a hf
  refine sY hf hs rfl rfl rfl (Y_add rfl rfl rfl) ?_; clear hf; intro a hf
  refine sY hf hs rfl rfl rfl (Y_assign rfl rfl) ?_; clear hf; intro a hf
  refine wpO_nil ?_
  refine wpL_seq ?_
  refine wpL_region ?_
  refine sY hf hs rfl rfl rfl (Y_move rfl rfl) ?_; clear hf; intro a hf
  refine sY hf hs rfl rfl rfl (Y_move rfl rfl) ?_; clear hf; intro a hf
  refine sY hf hs rfl rfl rfl (Y_mul rfl rfl rfl) ?_; clear hf; intro a hf
  refine sY hf hs rfl rfl rfl (Y_move rfl rfl) ?_; clear hf; intro a hf
  refine sY hf hs rfl rfl rfl (Y_add rfl rfl rfl) ?_; clear hf; intro a hf
  refine sY hf hs rfl rfl rfl (Y_move rfl rfl) ?_; clear hf; intro a hf
  refine sY hf hs rfl rfl rfl (Y_shr rfl rfl rfl (by decide) (by decide)) ?_; clear hf; intro a hf
  refine sY hf hs rfl rfl rfl (Y_add rfl rfl rfl) ?_; clear hf; intro a hf
  refine sY hf hs rfl rfl rfl (Y_assign rfl rfl) ?_; clear hf; intro a hf
  refine wpO_nil ?_
  refine wpL_seq ?_
  refine wpL_region ?_
  refine sY hf hs rfl rfl rfl (Y_move rfl rfl) ?_; clear hf; intro a hf
  refine sY hf hs rfl rfl rfl (Y_move rfl rfl) ?_; clear hf; intro a hf
  refine sY hf hs rfl rfl rfl (Y_mul rfl rfl rfl) ?_; clear hf; intro a hf
  refine sY hf hs rfl rfl rfl (Y_assign rfl rfl) ?_; clear hf; intro a hf
  refine wpO_nil ?_
  obtain rfl := Option.some.inj hm
  refine wpL_ret (ret_tmp2 rfl hf rfl rfl ?_)
  exact ⟨_, rfl, rfl, hs⟩

set_option maxRecDepth 100000 in
theorem math_bits_Mul_ok (F : Nat) (p0_x : Int) (p1_y : Int) (r : Int × Int) (W : World) (hm : math_bits_Mul F p0_x p1_y = some r) :
    Calls Try.prog 164 [.int .u64 p0_x, .int .u64 p1_y].toArray W fun e w' => ∃ v, e = .returned v ∧ v = .tuple #[.int .u64 r.1, .int .u64 r.2] ∧ St [] W w' [] := by
  unfold math_bits_Mul at hm
  refine Calls.enter (N := 30) Try.func164 rfl rfl rfl (fun a hf => ?_)
  have hs := St.start W
  obtain ⟨w, hw_⟩ : ∃ w, w = W := ⟨W, rfl⟩
  clear hw_ w
  refine wpL_seq ?_
  refine wpL_region ?_
  refine sY hf hs rfl rfl rfl (Y_assign rfl rfl) ?_; clear hf; intro a hf
  refine sY hf hs rfl rfl rfl (Y_assign rfl rfl) ?_; clear hf; intro a hf
  refine wpO_nil ?_
  refine wpL_seq ?_
  refine wpL_cond hf rfl (fun e => absurd e Bool.false_ne_true) (fun _ => ?_)
  refine wpL_skip ?_
  refine wpL_seq ?_
  refine wpL_region ?_
  refine sY hf hs rfl rfl rfl (Y_move rfl rfl) ?_; clear hf; intro a hf
  refine sY hf hs rfl rfl rfl (Y_move rfl rfl) ?_; clear hf; intro a hf
  obtain ⟨r1, hc2, hm⟩ := bind_some hm
  refine sCall hf rfl rfl rfl rfl (cap := []) rfl rfl en183 (math_bits_Mul64_ok F p0_x p1_y _ _ hc2) ?_; clear hf
  rintro _ w ⟨rfl, hs1⟩ a hf
  have hs : St [] W w [] := hs.ext hs1.below
  clear hs1
  refine sY hf hs rfl rfl rfl (Y_move rfl rfl) ?_; clear hf; intro a hf
  refine sY hf hs rfl rfl rfl (Y_extract rfl rfl rfl) ?_; clear hf; intro a hf
  refine sY hf hs rfl rfl rfl (Y_extract rfl rfl rfl) ?_; clear hf; intro a hf
  refine sY hf hs rfl rfl rfl (Y_assign rfl rfl) ?_; clear hf; intro a hf
  refine sY hf hs rfl rfl rfl (Y_assign rfl rfl) ?_; clear hf; intro a hf
  refine wpO_nil ?_
  refine wpL_seq ?_
  refine wpL_region ?_
  refine sY hf hs rfl rfl rfl (Y_move rfl rfl) ?_; clear hf; intro a hf
  refine sY hf hs rfl rfl rfl (Y_move rfl rfl) ?_; clear hf; intro a hf
  refine sY hf hs rfl rfl rfl (Y_assign rfl rfl) ?_; clear hf; intro a hf
  refine sY hf hs rfl rfl rfl (Y_assign rfl rfl) ?_; clear hf; intro a hf
  refine wpO_nil ?_
  obtain rfl := Option.some.inj hm
  refine wpL_ret (ret_tmp2 rfl hf rfl rfl ?_)
  exact ⟨_, rfl, rfl, hs⟩

set_option maxRecDepth 100000 in
theorem slices_Repeat_int64_ok (F : Nat) (p0_x : List Int) (A_p0_x_1 : Option Addr) (n_p0_x_1 c_p0_x_1 : Nat) (hn_p0_x_1 : n_p0_x_1 = p0_x.length) (p1_count : Int) (r : List Int) (W : World) (hm : slices_Repeat_int64 F p0_x p1_count = some r) (h_p0_x_1 : Rd W A_p0_x_1 (ints p0_x)) :
    Calls Try.prog 93 [.slice A_p0_x_1 n_p0_x_1 c_p0_x_1, .int .i64 p1_count].toArray W fun e w' => ∃ v, e = .returned v ∧ ∃ A45, ∃ n46, ∃ c47, v = .slice A45 n46 c47 ∧ n46 = r.length ∧ St [] W w' [.row A45 n46 c47 2 1 (ints r)] := by
  subst hn_p0_x_1
  unfold slices_Repeat_int64 at hm
  refine Calls.enter (N := 48) Try.func93 rfl rfl rfl (fun a hf => ?_)
  have hs := St.start W
  obtain ⟨w, hw_⟩ : ∃ w, w = W := ⟨W, rfl⟩
  clear hw_ w
  refine wpL_seq ?_
  refine wpL_region ?_
  refine sY hf hs rfl rfl rfl (Y_assign rfl rfl) ?_; clear hf; intro a hf
  refine wpO_nil ?_
  refine wpL_seq ?_
  refine wpL_seq ?_
  refine wpL_region ?_
  refine sY hf hs rfl rfl rfl (Y_move rfl rfl) ?_; clear hf; intro a hf
  refine sY hf hs rfl rfl rfl (Y_lss rfl rfl rfl) ?_; clear hf; intro a hf
  refine wpO_nil ?_
  refine wpL_cond hf rfl (fun hb1 => ?_) (fun hb1 => ?_)
  · have hm := bif_t hm hb1
    cases hm
  · have hm := bif_f hm hb1
    refine wpL_skip ?_
    refine wpL_seq ?_
    refine wpL_region ?_
    refine sY hf hs rfl rfl rfl (Y_move rfl rfl) ?_; clear hf; intro a hf
    refine sY hf hs rfl rfl rfl (Y_lenH rfl rfl el23 rfl) ?_; clear hf; intro a hf
    refine sY hf hs rfl rfl rfl (Y_convert rfl rfl un3 un120) ?_; clear hf; intro a hf
    refine sY hf hs rfl rfl rfl (Y_move rfl rfl) ?_; clear hf; intro a hf
    refine sY hf hs rfl rfl rfl (Y_convert rfl rfl un3 un120) ?_; clear hf; intro a hf
    obtain ⟨r2, hc3, hm⟩ := bind_some hm
    refine sCall hf rfl rfl rfl rfl (cap := []) rfl rfl en164 (math_bits_Mul_ok F (IntKind.u64.wrap (p0_x.length : Int)) (IntKind.u64.wrap p1_count) _ _ hc3) ?_; clear hf
    rintro _ w ⟨rfl, hs1⟩ a hf
    have hs : St [] W w [] := hs.ext hs1.below
    clear hs1
    refine sY hf hs rfl rfl rfl (Y_move rfl rfl) ?_; clear hf; intro a hf
    refine sY hf hs rfl rfl rfl (Y_extract rfl rfl rfl) ?_; clear hf; intro a hf
    refine sY hf hs rfl rfl rfl (Y_extract rfl rfl rfl) ?_; clear hf; intro a hf
    refine sY hf hs rfl rfl rfl (Y_assign rfl rfl) ?_; clear hf; intro a hf
    refine sY hf hs rfl rfl rfl (Y_assign rfl rfl) ?_; clear hf; intro a hf
    refine wpO_nil ?_
    refine wpL_seq ?_
    refine wpL_seq ?_
    obtain ⟨r6, hj7, hm⟩ := bind_some hm
    refine wpL_cut (fun a w => ∃ b5 : Bool, b5 = r6 ∧ Fr a 48 [(0, .slice A_p0_x_1 p0_x.length c_p0_x_1), (6, .int .u64 r2.2), (26, .bool b5)] ∧ St [] W w []) ?_ ?_
    · refine wpL_region ?_
      refine sY hf hs rfl rfl rfl (Y_move rfl rfl) ?_; clear hf; intro a hf
      refine sY hf hs rfl rfl rfl (Y_gtr rfl rfl rfl) ?_; clear hf; intro a hf
      refine sY hf hs rfl rfl rfl (Y_move rfl rfl) ?_; clear hf; intro a hf
      refine bsplit (decide (0 < r2.1)) (fun hb8 => ?_) (fun hb8 => ?_)
      · have hj7 := bif_t hj7 hb8
        refine sNo hf rfl rfl rfl (congrArg (fun b => some (Value.bool b)) hb8) rfl rfl rfl ?_; clear hf; intro a hf
        refine sNo hf rfl rfl rfl (congrArg (fun b => some (Value.bool b)) hb8) rfl rfl rfl ?_; clear hf; intro a hf
        refine sY hf hs rfl rfl rfl (Y_pickT rfl (congrArg (fun b => some (Value.bool b)) hb8) rfl) ?_; clear hf; intro a hf
        refine wpO_nil ?_
        refine wpL_nil (then_normal ?_)
        exact ⟨true, Option.some.inj hj7, (FrD.pick (FrD.pick (FrD.pick hf.none hf rfl) hf rfl) hf rfl), hs⟩
      · have hj7 := bif_f hj7 hb8
        refine sYg hf hs rfl rfl rfl (congrArg (fun b => some (Value.bool b)) hb8) rfl rfl rfl (Y_move rfl rfl) ?_; clear hf; intro a hf
        refine sYg hf hs rfl rfl rfl (congrArg (fun b => some (Value.bool b)) hb8) rfl rfl rfl (Y_gtr rfl rfl rfl) ?_; clear hf; intro a hf
        refine sY hf hs rfl rfl rfl (Y_pickF rfl (congrArg (fun b => some (Value.bool b)) hb8) rfl) ?_; clear hf; intro a hf
        refine wpO_nil ?_
        refine wpL_nil (then_normal ?_)
        exact ⟨(decide (9223372036854775807 < r2.2)), Option.some.inj hj7, (FrD.pick (FrD.pick (FrD.pick hf.none hf rfl) hf rfl) hf rfl), hs⟩
    · rintro a w ⟨b5, hr_, hf, hs⟩
      subst hr_
      try dsimp only at hm
      refine wpL_cond hf rfl (fun hb9 => ?_) (fun hb9 => ?_)
      · have hm := bif_t hm hb9
        cases hm
      · have hm := bif_f hm hb9
        refine wpL_skip ?_
        refine wpL_seq ?_
        refine wpL_region ?_
        refine sY hf hs rfl rfl rfl (Y_move rfl rfl) ?_; clear hf; intro a hf
        refine sY hf hs rfl rfl rfl (Y_convert rfl rfl un120 un3) ?_; clear hf; intro a hf
        obtain ⟨xs12, hk11, hm⟩ := bind_some hm
        refine sMakeL (enc := ints) hf hs rfl rfl rfl rfl rfl hk11 el23 ti2 rfl ints_made ?_; clear hf hs; intro a w A10 hs hf
        have hs : St [] W w [.row A10 xs12.length xs12.length 2 1 (ints xs12)] := hs
        refine sY hf hs rfl rfl rfl (Y_assign rfl rfl) ?_; clear hf; intro a hf
        refine wpO_nil ?_
        refine wpL_seq ?_
        refine wpL_region ?_
        refine sY hf hs rfl rfl rfl (Y_move rfl rfl) ?_; clear hf; intro a hf
        refine sY hf hs rfl rfl rfl (Y_move rfl rfl) ?_; clear hf; intro a hf
        refine sCopy (i := 0) (xs := xs12) (ys := p0_x) hf hs rfl rfl rfl rfl rfl rfl rfl rfl rfl el23 ti2 (h_p0_x_1.at hs) ?_; clear hf hs; intro a w hs hf
        have hs : St [] W w [.row A10 xs12.length xs12.length 2 1 (ints (cpy xs12 p0_x))] := hs
        refine sY hf hs rfl rfl rfl (Y_assign rfl rfl) ?_; clear hf; intro a hf
        refine wpO_nil ?_
        refine wpL_seq ?_
        obtain ⟨r36, hl37, hm⟩ := bind_some hm
        refine wpL_block (fun a w => ∃ xs34 : List Int, xs34 = r36 ∧ xs12.length = xs34.length ∧ Fr a 48 [(7, .slice A10 xs12.length xs12.length)] ∧ St [] W w [.row A10 xs12.length xs12.length 2 1 (ints xs34)]) ?_ ?_
        · refine wpL_loop (fun n a w => ∃ xs26 : List Int, ∃ x28 : Int, slices_Repeat_int64_L1 F n xs26 x28 = some r36 ∧ xs12.length = xs26.length ∧ Fr a 48 [(7, .slice A10 xs12.length xs12.length), (8, .int .i64 x28)] ∧ St [] W w [.row A10 xs12.length xs12.length 2 1 (ints xs26)]) F ?_ ?_ ?_
          · exact ⟨(cpy xs12 p0_x), ((min p0_x.length xs12.length : Nat) : Int), hl37, (cpy_len xs12 p0_x).symm, (FrD.pick (FrD.pick hf.none hf rfl) hf rfl), hs⟩
          · rintro a w ⟨xs26, x28, h0_, -, -, -⟩; simp [slices_Repeat_int64_L1] at h0_
          · rintro n39 a w ⟨xs26, x28, hm38, hn27, hf, hs⟩
            rw [slices_Repeat_int64_L1] at hm38
            refine wpL_seq ?_
            refine wpL_seq ?_
            refine wpL_region ?_
            refine sY hf hs rfl rfl rfl (Y_move rfl rfl) ?_; clear hf; intro a hf
            refine sY hf hs rfl rfl rfl (Y_move rfl rfl) ?_; clear hf; intro a hf
            refine sY hf hs rfl rfl rfl (Y_lenH rfl rfl el23 hn27) ?_; clear hf; intro a hf
            refine sY hf hs rfl rfl rfl (Y_lss rfl rfl rfl) ?_; clear hf; intro a hf
            refine wpO_nil ?_
            refine wpL_cond hf rfl (fun hb40 => ?_) (fun hb40 => ?_)
            · have hm38 := bif_t hm38 hb40
              refine wpL_skip ?_
              refine wpL_block0 ?_
              refine wpL_drawM [.row A10 xs12.length xs12.length 2 1 (ints xs26)] [7] (by kernel_rfl) hs ?_; clear hs; intro w hs
              have hs0 : St [] W w [.row A10 xs12.length xs12.length 2 1 (ints xs26)] := hs
              refine mYp (i := 0) rfl (by kernel_rfl) (by kernel_rfl) hf rfl rfl rfl (fun _ => Y_move rfl rfl) ?_; clear hf; intro a hf
              refine mYp (i := 1) rfl (by kernel_rfl) (by kernel_rfl) hf rfl rfl rfl (fun _ => Y_move rfl rfl) ?_; clear hf; intro a hf
              refine mYp (i := 2) rfl (by kernel_rfl) (by kernel_rfl) hf rfl rfl rfl (fun _ => Y_move rfl rfl) ?_; clear hf; intro a hf
              obtain ⟨xs42, hk41, hm38⟩ := bind_some hm38
              refine mY (i := 3) [[]] rfl (by kernel_rfl) (by kernel_rfl) hf hs0 rfl rfl rfl (Y_sliceL rfl rfl rfl (cutFrom_some hk41).1 (leN hn27 (cutFrom_some hk41).2.1) el23 ti2) ?_; clear hf; intro a hf
              refine mYp (i := 4) rfl (by kernel_rfl) (by kernel_rfl) hf rfl rfl rfl (fun _ => Y_move rfl rfl) ?_; clear hf; intro a hf
              refine mYp (i := 5) rfl (by kernel_rfl) (by kernel_rfl) hf rfl rfl rfl (fun _ => Y_move rfl rfl) ?_; clear hf; intro a hf
              obtain ⟨xs44, hk43, hm38⟩ := bind_some hm38
              refine mY (i := 6) [[]] rfl (by kernel_rfl) (by kernel_rfl) hf hs0 rfl rfl rfl (Y_sliceH rfl rfl rfl (cutTo_some hk43).1 (leC hn27 (hs0.capR (i := 0) rfl) hk43) el23 ti2) ?_; clear hf; intro a hf
              refine mRun (i := 7) rfl (by kernel_rfl) ?_
              refine sCopySuf (i := 0) (xs := xs26) (ys := xs44) hf hs rfl rfl rfl rfl rfl rfl rfl hn27 (pre_len hk43) hk41 el23 ti2 (Rd.preInts (hs.rd (i := 0) rfl) hk43) ?_; clear hf hs; intro a w hs hf
              have hs : St [] W w [.row A10 xs12.length xs12.length 2 1 (ints (cpyS xs26 x28 xs44))] := hs
              refine wpO_nil ⟨Or.inl (by decide), ?_⟩
              refine mYp (i := 8) rfl (by kernel_rfl) (by kernel_rfl) hf rfl rfl rfl (fun _ => Y_add rfl rfl rfl) ?_; clear hf; intro a hf
              refine mYp (i := 9) rfl (by kernel_rfl) (by kernel_rfl) hf rfl rfl rfl (fun _ => Y_assign rfl rfl) ?_; clear hf; intro a hf
              refine mDone (by kernel_rfl) ?_
              clear hs0
              refine wpL_nil (Qb_normal ?_)
              refine wpL_nil (Ql_normal ?_)
              exact ⟨(cpyS xs26 x28 xs44), (IntKind.i64.wrap (x28 + ((min xs44.length xs42.length : Nat) : Int))), hm38, ((hn27).trans (cpyS_len hk41 xs44).symm), (FrD.pick (FrD.pick hf.none hf rfl) hf rfl), hs⟩
            · have hm38 := bif_f hm38 hb40
              refine wpL_exit (Ql_exit (Qb_exit ?_))
              exact ⟨xs26, Option.some.inj hm38, hn27, (FrD.pick hf.none hf rfl), hs⟩
        · rintro a w ⟨xs34, hr_, hn35, hf, hs⟩
          subst hr_
          try dsimp only at hm
          refine wpL_seq ?_
          refine wpL_region ?_
          refine sY hf hs rfl rfl rfl (Y_move rfl rfl) ?_; clear hf; intro a hf
          refine sY hf hs rfl rfl rfl (Y_assign rfl rfl) ?_; clear hf; intro a hf
          refine wpO_nil ?_
          obtain rfl := Option.some.inj hm
          refine wpL_ret (ret_tmp rfl hf rfl ?_)
          exact ⟨_, rfl, A10, xs12.length, xs12.length, rfl, hn35, hs⟩

set_option maxRecDepth 100000 in
theorem slices_Grow_int64_ok (F : Nat) (p1_n : Int) (r : List Int) (W : World) (hm : slices_Grow_int64 F p1_n = some r) :
    Calls Try.prog 163 [.slice none 0 0, .int .i64 p1_n].toArray W fun e w' => ∃ v, e = .returned v ∧ ∃ A24, ∃ n25, ∃ c26, v = .slice A24 n25 c26 ∧ n25 = r.length ∧ St [] W w' [.row A24 n25 c26 2 1 (ints r)] := by
  unfold slices_Grow_int64 at hm
  refine Calls.enter (N := 27) Try.func163 rfl rfl rfl (fun a hf => ?_)
  have hs := St.start W
  obtain ⟨w, hw_⟩ : ∃ w, w = W := ⟨W, rfl⟩
  clear hw_ w
  refine wpL_seq ?_
  refine wpL_region ?_
  refine sY hf hs rfl rfl rfl (Y_assign rfl rfl) ?_; clear hf; intro a hf
  refine wpO_nil ?_
  refine wpL_seq ?_
  refine wpL_seq ?_
  refine wpL_region ?_
  refine sY hf hs rfl rfl rfl (Y_move rfl rfl) ?_; clear hf; intro a hf
  refine sY hf hs rfl rfl rfl (Y_lss rfl rfl rfl) ?_; clear hf; intro a hf
  refine wpO_nil ?_
  refine wpL_cond hf rfl (fun hb1 => ?_) (fun hb1 => ?_)
  · have hm := bif_t hm hb1
    cases hm
  · have hm := bif_f hm hb1
    refine wpL_skip ?_
    refine wpL_seq ?_
    refine wpL_seq ?_
    refine wpL_region ?_
    refine sY hf hs rfl rfl rfl (Y_move rfl rfl) ?_; clear hf; intro a hf
    refine sY hf hs rfl rfl rfl (Y_move rfl rfl) ?_; clear hf; intro a hf
    refine sY hf hs rfl rfl rfl (Y_cap0 rfl rfl el23) ?_; clear hf; intro a hf
    refine sY hf hs rfl rfl rfl (Y_move rfl rfl) ?_; clear hf; intro a hf
    refine sY hf hs rfl rfl rfl (Y_lenH rfl rfl el23 rfl) ?_; clear hf; intro a hf
    refine sY hf hs rfl rfl rfl (Y_sub rfl rfl rfl) ?_; clear hf; intro a hf
    refine sY hf hs rfl rfl rfl (Y_sub rfl rfl rfl) ?_; clear hf; intro a hf
    refine sY hf hs rfl rfl rfl (Y_assign rfl rfl) ?_; clear hf; intro a hf
    refine wpO_nil ?_
    refine wpL_seq ?_
    refine wpL_region ?_
    refine sY hf hs rfl rfl rfl (Y_move rfl rfl) ?_; clear hf; intro a hf
    refine sY hf hs rfl rfl rfl (Y_gtr rfl rfl rfl) ?_; clear hf; intro a hf
    refine wpO_nil ?_
    obtain ⟨r14, hj15, hm⟩ := bind_some hm
    refine wpL_cut (fun a w => ∃ xs9 : List Int, ∃ A10, ∃ n11, ∃ c12, xs9 = r14 ∧ n11 = xs9.length ∧ Fr a 27 [(0, .slice A10 n11 c12)] ∧ St [] W w [.row A10 n11 c12 2 1 (ints xs9)]) ?_ ?_
    · refine wpL_cond hf rfl (fun hb16 => ?_) (fun hb16 => ?_)
      · have hj15 := bif_t hj15 hb16
        refine wpL_region ?_
        refine sY hf hs rfl rfl rfl (Y_move rfl rfl) ?_; clear hf; intro a hf
        refine sY hf hs rfl rfl rfl (Y_move rfl rfl) ?_; clear hf; intro a hf
        refine sY hf hs rfl rfl rfl (Y_cap0 rfl rfl el23) ?_; clear hf; intro a hf
        refine sY hf hs rfl rfl rfl (Y_sliceH (l := 0) rfl rfl rfl (by decide) (by decide) el23 ti2) ?_; clear hf; intro a hf
        refine sY hf hs rfl rfl rfl (Y_move rfl rfl) ?_; clear hf; intro a hf
        obtain ⟨xs19, hk20, hj15⟩ := bind_some hj15
        refine sZeros hf hs rfl rfl rfl rfl rfl rfl hk20 el23 un3 ti2 ?_; clear hf hs; intro a w A17 c18 hs hf
        have hs : St [] W w [.row A17 xs19.length c18 2 1 (ints xs19)] := hs
        refine sY hf hs rfl rfl rfl (Y_move rfl rfl) ?_; clear hf; intro a hf
        refine sY hf hs rfl rfl rfl (Y_lenH rfl rfl el23 rfl) ?_; clear hf; intro a hf
        obtain ⟨xs22, hk21, hj15⟩ := bind_some hj15
        refine sY hf hs rfl rfl rfl (Y_sliceH rfl rfl rfl (cutTo_some hk21).1 (leC rfl (hs.capR (i := 0) rfl) hk21) el23 ti2) ?_; clear hf; intro a hf
        have hs := hs.cutInts (i := 0) rfl rfl hk21
        have hs : St [] W _ [.row A17 ((([] : List Int).length : Int) : Int).toNat c18 2 1 (ints xs22)] := hs
        refine sY hf hs rfl rfl rfl (Y_assign rfl rfl) ?_; clear hf; intro a hf
        refine wpO_nil ?_
        refine wpL_nil (then_normal ?_)
        exact ⟨xs22, A17, ((([] : List Int).length : Int) : Int).toNat, c18, Option.some.inj hj15, (pre_len hk21), (FrD.pick hf.none hf rfl), hs⟩
      · have hj15 := bif_f hj15 hb16
        refine wpL_skip ?_
        have hs : St [] W _ [.row none 0 0 2 1 (ints ([] : List Int))] := hs.addNil 2 1
        refine wpL_nil (then_normal ?_)
        exact ⟨([] : List Int), none, 0, 0, Option.some.inj hj15, rfl, (FrD.pick hf.none hf rfl), hs⟩
    · rintro a w ⟨xs9, A10, n11, c12, hr_, hn13, hf, hs⟩
      subst hr_
      try dsimp only at hm
      refine wpL_seq ?_
      refine wpL_region ?_
      refine sY hf hs rfl rfl rfl (Y_move rfl rfl) ?_; clear hf; intro a hf
      refine sY hf hs rfl rfl rfl (Y_assign rfl rfl) ?_; clear hf; intro a hf
      refine wpO_nil ?_
      obtain rfl := Option.some.inj hm
      refine wpL_ret (ret_tmp rfl hf rfl ?_)
      exact ⟨_, rfl, A10, n11, c12, rfl, hn13, hs⟩

set_option maxRecDepth 100000 in
theorem slices_Concat_int64_ok (F : Nat) (p0_slices : List (List Int)) (A_p0_slices_1 : Option Addr) (n_p0_slices_1 c_p0_slices_1 : Nat) (hn_p0_slices_1 : n_p0_slices_1 = p0_slices.length) (r : List Int) (W : World) (hm : slices_Concat_int64 F p0_slices = some r) (h_p0_slices_1 : RdM W A_p0_slices_1 p0_slices) :
    Calls Try.prog 92 [.slice A_p0_slices_1 n_p0_slices_1 c_p0_slices_1].toArray W fun e w' => ∃ v, e = .returned v ∧ ∃ A137, ∃ n138, ∃ c139, v = .slice A137 n138 c139 ∧ n138 = r.length ∧ St [] W w' [.row A137 n138 c139 2 1 (ints r)] := by
  subst hn_p0_slices_1
  unfold slices_Concat_int64 at hm
  refine Calls.enter (N := 36) Try.func92 rfl rfl rfl (fun a hf => ?_)
  have hs := St.start W
  obtain ⟨w, hw_⟩ : ∃ w, w = W := ⟨W, rfl⟩
  clear hw_ w
  refine wpL_seq ?_
  refine wpL_region ?_
  refine sY hf hs rfl rfl rfl (Y_assign rfl rfl) ?_; clear hf; intro a hf
  refine wpO_nil ?_
  refine wpL_seq ?_
  refine wpL_region ?_
  refine sY hf hs rfl rfl rfl (Y_assign rfl rfl) ?_; clear hf; intro a hf
  refine wpO_nil ?_
  refine wpL_seq ?_
  refine wpL_seq ?_
  refine wpL_region ?_
  refine sY hf hs rfl rfl rfl (Y_move rfl rfl) ?_; clear hf; intro a hf
  refine sY hf hs rfl rfl rfl (Y_lenH rfl rfl el22 rfl) ?_; clear hf; intro a hf
  refine sY hf hs rfl rfl rfl (Y_move rfl rfl) ?_; clear hf; intro a hf
  refine wpO_nil ?_
  obtain ⟨r39, hl40, hm⟩ := bind_some hm
  refine wpL_block (fun a w => ∃ x38 : Int, x38 = r39 ∧ Fr a 36 [(0, .slice A_p0_slices_1 p0_slices.length c_p0_slices_1), (3, .int .i64 x38)] ∧ St [] W w []) ?_ ?_
  · refine wpL_loop (fun n a w => ∃ x25 : Int, ∃ x26 : Int, slices_Concat_int64_L1 F p0_slices n x25 x26 = some r39 ∧ Fr a 36 [(0, .slice A_p0_slices_1 p0_slices.length c_p0_slices_1), (3, .int .i64 x25), (9, .slice A_p0_slices_1 p0_slices.length c_p0_slices_1), (10, .int .i64 (p0_slices.length : Int)), (11, .int .i64 x26)] ∧ St [] W w []) F ?_ ?_ ?_
    · exact ⟨0, 0, hl40, (FrD.pick (FrD.pick (FrD.pick (FrD.pick (FrD.pick hf.none hf rfl) hf rfl) hf rfl) hf rfl) hf rfl), hs⟩
    · rintro a w ⟨x25, x26, h0_, -, -⟩; simp [slices_Concat_int64_L1] at h0_
    · rintro n42 a w ⟨x25, x26, hm41, hf, hs⟩
      rw [slices_Concat_int64_L1] at hm41
      refine wpL_seq ?_
      refine wpL_region ?_
      refine sY hf hs rfl rfl rfl (Y_lss rfl rfl rfl) ?_; clear hf; intro a hf
      refine wpO_nil ?_
      refine wpL_seq ?_
      refine wpL_cond hf rfl (fun hb43 => ?_) (fun hb43 => ?_)
      · have hm41 := bif_t hm41 hb43
        refine wpL_skip ?_
        refine wpL_seq ?_
        refine wpL_block0 ?_
        refine wpL_seq ?_
        refine wpL_region ?_
        obtain ⟨q44, hi45, hm41⟩ := bind_some hm41
        obtain ⟨hi45a, hi45b, hi45q⟩ := idx_some hi45
        obtain ⟨vs46, hv47, hr48⟩ := id h_p0_slices_1
        obtain ⟨A49, c50, hv51, hR52⟩ := hr48 _ _ hi45q
        refine sY hf hs rfl rfl rfl (Y_index rfl rfl rfl el22 ti23 (Rd.isAt hv47 hv51) hi45a hi45b) ?_; clear hf; intro a hf
        refine sY hf hs rfl rfl rfl (Y_load_rd rfl rfl (fun w hs => hv47.at hs) (at1 hv51) ag23) ?_; clear hf; intro a hf
        refine sY hf hs rfl rfl rfl (Y_assign rfl rfl) ?_; clear hf; intro a hf
        refine wpO_nil ?_
        refine wpL_seq ?_
        refine wpL_region ?_
        refine sY hf hs rfl rfl rfl (Y_move rfl rfl) ?_; clear hf; intro a hf
        refine sY hf hs rfl rfl rfl (Y_move rfl rfl) ?_; clear hf; intro a hf
        refine sY hf hs rfl rfl rfl (Y_lenH rfl rfl el23 rfl) ?_; clear hf; intro a hf
        refine sY hf hs rfl rfl rfl (Y_add rfl rfl rfl) ?_; clear hf; intro a hf
        refine sY hf hs rfl rfl rfl (Y_assign rfl rfl) ?_; clear hf; intro a hf
        refine wpO_nil ?_
        refine wpL_seq ?_
        refine wpL_region ?_
        refine sY hf hs rfl rfl rfl (Y_move rfl rfl) ?_; clear hf; intro a hf
        refine sY hf hs rfl rfl rfl (Y_lss rfl rfl rfl) ?_; clear hf; intro a hf
        refine wpO_nil ?_
        refine wpL_cond hf rfl (fun hb53 => ?_) (fun hb53 => ?_)
        · have hm41 := bif_t hm41 hb53
          cases hm41
        · have hm41 := bif_f hm41 hb53
          refine wpL_skip ?_
          refine wpL_nil (Qb_normal ?_)
          refine wpL_region ?_
          refine sY hf hs rfl rfl rfl (Y_add rfl rfl rfl) ?_; clear hf; intro a hf
          refine sY hf hs rfl rfl rfl (Y_move rfl rfl) ?_; clear hf; intro a hf
          refine wpO_nil ?_
          refine wpL_nil (Ql_normal ?_)
          exact ⟨(IntKind.i64.wrap (x25 + (q44.length : Int))), (IntKind.i64.wrap (x26 + 1)), hm41, (FrD.pick (FrD.pick (FrD.pick (FrD.pick (FrD.pick hf.none hf rfl) hf rfl) hf rfl) hf rfl) hf rfl), hs⟩
      · have hm41 := bif_f hm41 hb43
        refine wpL_exit (Ql_exit (Qb_exit ?_))
        exact ⟨x25, Option.some.inj hm41, (FrD.pick (FrD.pick hf.none hf rfl) hf rfl), hs⟩
  · rintro a w ⟨x38, hr_, hf, hs⟩
    subst hr_
    try dsimp only at hm
    refine wpL_seq ?_
    refine wpL_region ?_
    refine sY hf hs rfl rfl rfl (Y_move rfl rfl) ?_; clear hf; intro a hf
    obtain ⟨r54, hc55, hm⟩ := bind_some hm
    refine sCall hf rfl rfl rfl rfl (cap := []) rfl rfl en163 (slices_Grow_int64_ok F x38 _ _ hc55) ?_; clear hf
    rintro _ w ⟨A56, n57, c58, rfl, hn59, hs1⟩ a hf
    have hs : St [] W w [.row A56 n57 c58 2 1 (ints r54)] := hs.join hs1
    clear hs1
    refine sY hf hs rfl rfl rfl (Y_assign rfl rfl) ?_; clear hf; intro a hf
    refine wpO_nil ?_
    refine wpL_seq ?_
    refine wpL_seq ?_
    refine wpL_region ?_
    refine sY hf hs rfl rfl rfl (Y_move rfl rfl) ?_; clear hf; intro a hf
    refine sY hf hs rfl rfl rfl (Y_lenH rfl rfl el22 rfl) ?_; clear hf; intro a hf
    refine sY hf hs rfl rfl rfl (Y_move rfl rfl) ?_; clear hf; intro a hf
    refine wpO_nil ?_
    obtain ⟨r119, hl120, hm⟩ := bind_some hm
    refine wpL_block (fun a w => ∃ xs114 : List Int, ∃ A115, ∃ n116, ∃ c117, xs114 = r119 ∧ n116 = xs114.length ∧ Fr a 36 [(6, .slice A115 n116 c117)] ∧ St [] W w [.row A115 n116 c117 2 1 (ints xs114)]) ?_ ?_
    · refine wpL_loop (fun n a w => ∃ xs94 : List Int, ∃ x99 : Int, ∃ A95, ∃ n96, ∃ c97, slices_Concat_int64_L2 F p0_slices n xs94 x99 = some r119 ∧ n96 = xs94.length ∧ Fr a 36 [(6, .slice A95 n96 c97), (25, .slice A_p0_slices_1 p0_slices.length c_p0_slices_1), (26, .int .i64 (p0_slices.length : Int)), (27, .int .i64 x99)] ∧ St [] W w [.row A95 n96 c97 2 1 (ints xs94)]) F ?_ ?_ ?_
      · exact ⟨r54, 0, A56, n57, c58, hl120, hn59, (FrD.pick (FrD.pick (FrD.pick (FrD.pick hf.none hf rfl) hf rfl) hf rfl) hf rfl), hs⟩
      · rintro a w ⟨xs94, x99, A95, n96, c97, h0_, -, -, -⟩; simp [slices_Concat_int64_L2] at h0_
      · rintro n122 a w ⟨xs94, x99, A95, n96, c97, hm121, hn98, hf, hs⟩
        rw [slices_Concat_int64_L2] at hm121
        refine wpL_seq ?_
        refine wpL_region ?_
        refine sY hf hs rfl rfl rfl (Y_lss rfl rfl rfl) ?_; clear hf; intro a hf
        refine wpO_nil ?_
        refine wpL_seq ?_
        refine wpL_cond hf rfl (fun hb123 => ?_) (fun hb123 => ?_)
        · have hm121 := bif_t hm121 hb123
          refine wpL_skip ?_
          refine wpL_seq ?_
          refine wpL_block0 ?_
          refine wpL_seq ?_
          refine wpL_region ?_
          obtain ⟨q124, hi125, hm121⟩ := bind_some hm121
          obtain ⟨hi125a, hi125b, hi125q⟩ := idx_some hi125
          obtain ⟨vs126, hv127, hr128⟩ := id h_p0_slices_1
          obtain ⟨A129, c130, hv131, hR132⟩ := hr128 _ _ hi125q
          refine sY hf hs rfl rfl rfl (Y_index rfl rfl rfl el22 ti23 (Rd.isAt hv127 hv131) hi125a hi125b) ?_; clear hf; intro a hf
          refine sY hf hs rfl rfl rfl (Y_load_rd rfl rfl (fun w hs => hv127.at hs) (at1 hv131) ag23) ?_; clear hf; intro a hf
          refine sY hf hs rfl rfl rfl (Y_assign rfl rfl) ?_; clear hf; intro a hf
          refine wpO_nil ?_
          refine wpL_region ?_
          refine sY hf hs rfl rfl rfl (Y_move rfl rfl) ?_; clear hf; intro a hf
          refine sY hf hs rfl rfl rfl (Y_move rfl rfl) ?_; clear hf; intro a hf
          obtain ⟨xs135, ha136, hm121⟩ := bind_some hm121
          refine sAppendG (i := 0) (xs := xs94) (ys := q124) (enc := ints) hf hs rfl rfl rfl rfl rfl rfl hn98 rfl rfl ha136 el23 ti2 rfl rfl rfl (hR132.at hs) ints_len1 ints_append ints_one ?_; clear hf hs; intro a w A133 c134 hs hf
          have hs : St [] W w [.row A133 xs135.length c134 2 1 (ints xs135)] := hs
          refine sY hf hs rfl rfl rfl (Y_assign rfl rfl) ?_; clear hf; intro a hf
          refine wpO_nil ?_
          refine wpL_nil (Qb_normal ?_)
          refine wpL_region ?_
          refine sY hf hs rfl rfl rfl (Y_add rfl rfl rfl) ?_; clear hf; intro a hf
          refine sY hf hs rfl rfl rfl (Y_move rfl rfl) ?_; clear hf; intro a hf
          refine wpO_nil ?_
          refine wpL_nil (Ql_normal ?_)
          exact ⟨xs135, (IntKind.i64.wrap (x99 + 1)), A133, xs135.length, c134, hm121, rfl, (FrD.pick (FrD.pick (FrD.pick (FrD.pick hf.none hf rfl) hf rfl) hf rfl) hf rfl), hs⟩
        · have hm121 := bif_f hm121 hb123
          refine wpL_exit (Ql_exit (Qb_exit ?_))
          exact ⟨xs94, A95, n96, c97, Option.some.inj hm121, hn98, (FrD.pick hf.none hf rfl), hs⟩
    · rintro a w ⟨xs114, A115, n116, c117, hr_, hn118, hf, hs⟩
      subst hr_
      try dsimp only at hm
      refine wpL_seq ?_
      refine wpL_region ?_
      refine sY hf hs rfl rfl rfl (Y_move rfl rfl) ?_; clear hf; intro a hf
      refine sY hf hs rfl rfl rfl (Y_assign rfl rfl) ?_; clear hf; intro a hf
      refine wpO_nil ?_
      obtain rfl := Option.some.inj hm
      refine wpL_ret (ret_tmp rfl hf rfl ?_)
      exact ⟨_, rfl, A115, n116, c117, rfl, hn118, hs⟩

set_option maxRecDepth 100000 in
theorem impl_checkedSystem_ok (F : Nat) (p0_s : GSystem) (A_p0_s_1 : Option Addr) (n_p0_s_1 c_p0_s_1 : Nat) (hn_p0_s_1 : n_p0_s_1 = p0_s.A.length) (A_p0_s_2 : Option Addr) (n_p0_s_2 c_p0_s_2 : Nat) (hn_p0_s_2 : n_p0_s_2 = p0_s.B.length) (A_p0_s_3 : Option Addr) (n_p0_s_3 c_p0_s_3 : Nat) (hn_p0_s_3 : n_p0_s_3 = p0_s.C.length) (r : GSystem × Int) (W : World) (hm : impl_checkedSystem F p0_s = some r) (h_p0_s_1 : RdM W A_p0_s_1 p0_s.A) (h_p0_s_2 : Rd W A_p0_s_2 (ints p0_s.B)) (h_p0_s_3 : Rd W A_p0_s_3 (ints p0_s.C)) :
    Calls Try.prog 94 [.agg #[.slice A_p0_s_1 n_p0_s_1 c_p0_s_1, .slice A_p0_s_2 n_p0_s_2 c_p0_s_2, .slice A_p0_s_3 n_p0_s_3 c_p0_s_3]].toArray W fun e w' => ∃ v, e = .returned v ∧ ∃ A6, ∃ n7, ∃ c8, ∃ A11, ∃ n12, ∃ c13, ∃ A16, ∃ n17, ∃ c18, v = .tuple #[.agg #[.slice A6 n7 c8, .slice A11 n12 c13, .slice A16 n17 c18], .int .i64 r.2] ∧ n7 = r.1.A.length ∧ Al A_p0_s_1 n_p0_s_1 c_p0_s_1 p0_s.A A6 n7 c8 r.1.A ∧ n12 = r.1.B.length ∧ Al A_p0_s_2 n_p0_s_2 c_p0_s_2 p0_s.B A11 n12 c13 r.1.B ∧ n17 = r.1.C.length ∧ Al A_p0_s_3 n_p0_s_3 c_p0_s_3 p0_s.C A16 n17 c18 r.1.C ∧ St [] W w' [] := by
  subst hn_p0_s_1
  subst hn_p0_s_2
  subst hn_p0_s_3
  unfold impl_checkedSystem at hm
  refine Calls.enter (N := 9) Try.func94 rfl rfl rfl (fun a hf => ?_)
  have hs := St.start W
  obtain ⟨w, hw_⟩ : ∃ w, w = W := ⟨W, rfl⟩
  clear hw_ w
  refine wpL_seq ?_
  refine wpL_region ?_
  refine sBox hf hs rfl rfl rfl rfl rfl (cs := [.slice A_p0_s_1 p0_s.A.length c_p0_s_1, .slice A_p0_s_2 p0_s.B.length c_p0_s_2, .slice A_p0_s_3 p0_s.C.length c_p0_s_3]) rfl ?_; clear hf hs; intro a w b1 hs hf
  have hs : St [] W w [.blk b1 27 [.slice A_p0_s_1 p0_s.A.length c_p0_s_1, .slice A_p0_s_2 p0_s.B.length c_p0_s_2, .slice A_p0_s_3 p0_s.C.length c_p0_s_3]] := hs
  refine sAlloc hf hs rfl rfl rfl rfl ti27 ?_; clear hf hs; intro a w b2 hs hf
  have hs : St [] W w [.blk b1 27 [.slice A_p0_s_1 p0_s.A.length c_p0_s_1, .slice A_p0_s_2 p0_s.B.length c_p0_s_2, .slice A_p0_s_3 p0_s.C.length c_p0_s_3], .blk b2 27 [.slice none 0 0, .slice none 0 0, .slice none 0 0]] := hs
  refine sY hf hs rfl rfl rfl (Y_assign rfl rfl) ?_; clear hf; intro a hf
  refine wpO_nil ?_
  refine wpL_seq ?_
  refine wpL_seq ?_
  refine wpL_region ?_
  refine sY hf hs rfl rfl rfl (Y_load_blkS rfl rfl (i := 0) rfl ag27 ti27 rfl) ?_; clear hf; intro a hf
  obtain ⟨r3, hc4, hm⟩ := bind_some hm
  refine sCall hf rfl rfl rfl rfl (cap := []) rfl rfl en31 (impl_IsSystem_ok F p0_s A_p0_s_1 p0_s.A.length c_p0_s_1 rfl A_p0_s_2 p0_s.B.length c_p0_s_2 rfl A_p0_s_3 p0_s.C.length c_p0_s_3 rfl _ _ hc4 (h_p0_s_1.at hs) (h_p0_s_2.at hs) (h_p0_s_3.at hs)) ?_; clear hf
  rintro _ w ⟨rfl, hs1⟩ a hf
  have hs : St [] W w [.blk b1 27 [.slice A_p0_s_1 p0_s.A.length c_p0_s_1, .slice A_p0_s_2 p0_s.B.length c_p0_s_2, .slice A_p0_s_3 p0_s.C.length c_p0_s_3], .blk b2 27 [.slice none 0 0, .slice none 0 0, .slice none 0 0]] := hs.ext hs1.below
  clear hs1
  refine sY hf hs rfl rfl rfl (Y_not rfl rfl) ?_; clear hf; intro a hf
  refine wpO_nil ?_
  refine wpL_cond hf rfl (fun hb5 => ?_) (fun hb5 => ?_)
  · have hm := bif_t hm hb5
    refine wpL_seq ?_
    refine wpL_region ?_
    refine sY hf hs rfl rfl rfl (Y_build (parts := []) (vs := []) rfl rfl (run_build (parts := []) (cells := [.slice none 0 0, .slice none 0 0, .slice none 0 0]) (places := #[(0, 1), (1, 1), (2, 1)]) ti27 Try.underlying27 (fun w => by simp [go_sem]) rfl)) ?_; clear hf; intro a hf
    refine sStore (i := 1) (us := [.slice none 0 0, .slice none 0 0, .slice none 0 0]) hf hs rfl rfl rfl rfl rfl rfl ti27 rfl rfl rfl (Nat.le_of_ble_eq_true rfl) rfl ?_; clear hs; intro w hs
    have hs : St [] W w [.blk b1 27 [.slice A_p0_s_1 p0_s.A.length c_p0_s_1, .slice A_p0_s_2 p0_s.B.length c_p0_s_2, .slice A_p0_s_3 p0_s.C.length c_p0_s_3], .blk b2 27 [.slice none 0 0, .slice none 0 0, .slice none 0 0]] := hs
    refine sY hf hs rfl rfl rfl (Y_assign rfl rfl) ?_; clear hf; intro a hf
    refine wpO_nil ?_
    obtain rfl := Option.some.inj hm
    refine wpL_ret (ret_cell_tmp rfl hf rfl rfl hs (i := 1) rfl ag27 ti27 rfl ?_)
    exact ⟨_, rfl, none, 0, 0, none, 0, 0, none, 0, 0, rfl, rfl, .inr ⟨rfl, rfl, rfl, rfl⟩, rfl, .inr ⟨rfl, rfl, rfl, rfl⟩, rfl, .inr ⟨rfl, rfl, rfl, rfl⟩, hs.sel [] (by decide)⟩
  · have hm := bif_f hm hb5
    refine wpL_skip ?_
    refine wpL_seq ?_
    refine wpL_region ?_
    refine sY hf hs rfl rfl rfl (Y_load_blkS rfl rfl (i := 0) rfl ag27 ti27 rfl) ?_; clear hf; intro a hf
    refine sStore (i := 1) (us := [.slice A_p0_s_1 p0_s.A.length c_p0_s_1, .slice A_p0_s_2 p0_s.B.length c_p0_s_2, .slice A_p0_s_3 p0_s.C.length c_p0_s_3]) hf hs rfl rfl rfl rfl rfl rfl ti27 rfl rfl rfl (Nat.le_of_ble_eq_true rfl) rfl ?_; clear hs; intro w hs
    have hs : St [] W w [.blk b1 27 [.slice A_p0_s_1 p0_s.A.length c_p0_s_1, .slice A_p0_s_2 p0_s.B.length c_p0_s_2, .slice A_p0_s_3 p0_s.C.length c_p0_s_3], .blk b2 27 [.slice A_p0_s_1 p0_s.A.length c_p0_s_1, .slice A_p0_s_2 p0_s.B.length c_p0_s_2, .slice A_p0_s_3 p0_s.C.length c_p0_s_3]] := hs
    refine sY hf hs rfl rfl rfl (Y_assign rfl rfl) ?_; clear hf; intro a hf
    refine wpO_nil ?_
    obtain rfl := Option.some.inj hm
    refine wpL_ret (ret_cell_tmp rfl hf rfl rfl hs (i := 1) rfl ag27 ti27 rfl ?_)
    exact ⟨_, rfl, A_p0_s_1, p0_s.A.length, c_p0_s_1, A_p0_s_2, p0_s.B.length, c_p0_s_2, A_p0_s_3, p0_s.C.length, c_p0_s_3, rfl, rfl, .inl ⟨rfl, rfl, rfl, rfl⟩, rfl, .inl ⟨rfl, rfl, rfl, rfl⟩, rfl, .inl ⟨rfl, rfl, rfl, rfl⟩, hs.sel [] (by decide)⟩

set_option maxHeartbeats 2000000 in
set_option maxRecDepth 100000 in
theorem impl_SeriesSystem_ok (F : Nat) (p0 : GSystem) (A_p0_1 : Option Addr) (n_p0_1 c_p0_1 : Nat) (hn_p0_1 : n_p0_1 = p0.A.length) (A_p0_2 : Option Addr) (n_p0_2 c_p0_2 : Nat) (hn_p0_2 : n_p0_2 = p0.B.length) (A_p0_3 : Option Addr) (n_p0_3 c_p0_3 : Nat) (hn_p0_3 : n_p0_3 = p0.C.length) (p1 : GSystem) (A_p1_1 : Option Addr) (n_p1_1 c_p1_1 : Nat) (hn_p1_1 : n_p1_1 = p1.A.length) (A_p1_2 : Option Addr) (n_p1_2 c_p1_2 : Nat) (hn_p1_2 : n_p1_2 = p1.B.length) (A_p1_3 : Option Addr) (n_p1_3 c_p1_3 : Nat) (hn_p1_3 : n_p1_3 = p1.C.length) (r : GSystem × Int) (W : World) (hm : impl_SeriesSystem F p0 p1 = some r) (h_p0_1 : RdM W A_p0_1 p0.A) (h_p0_2 : Rd W A_p0_2 (ints p0.B)) (h_p0_3 : Rd W A_p0_3 (ints p0.C)) (h_p1_1 : RdM W A_p1_1 p1.A) (h_p1_2 : Rd W A_p1_2 (ints p1.B)) (h_p1_3 : Rd W A_p1_3 (ints p1.C)) :
    Calls Try.prog 13 [.agg #[.slice A_p0_1 n_p0_1 c_p0_1, .slice A_p0_2 n_p0_2 c_p0_2, .slice A_p0_3 n_p0_3 c_p0_3], .agg #[.slice A_p1_1 n_p1_1 c_p1_1, .slice A_p1_2 n_p1_2 c_p1_2, .slice A_p1_3 n_p1_3 c_p1_3]].toArray W fun e w' => ∃ v, e = .returned v ∧ ∃ A311, ∃ n312, ∃ c313, ∃ vs315, ∃ A316, ∃ n317, ∃ c318, ∃ A320, ∃ n321, ∃ c322, v = .tuple #[.agg #[.slice A311 n312 c313, .slice A316 n317 c318, .slice A320 n321 c322], .int .i64 r.2] ∧ n312 = r.1.A.length ∧ n317 = r.1.B.length ∧ n321 = r.1.C.length ∧ St [] W w' [.mat A311 n312 c313 23 2 vs315 r.1.A, .row A316 n317 c318 2 1 (ints r.1.B), .row A320 n321 c322 2 1 (ints r.1.C)] := by
  subst hn_p0_1
  subst hn_p0_2
  subst hn_p0_3
  subst hn_p1_1
  subst hn_p1_2
  subst hn_p1_3
  unfold impl_SeriesSystem at hm
  refine Calls.enter (N := 90) Try.func13 rfl rfl rfl (fun a hf => ?_)
  have hs := St.start W
  obtain ⟨w, hw_⟩ : ∃ w, w = W := ⟨W, rfl⟩
  clear hw_ w
  refine wpL_seq ?_
  refine wpL_region ?_
  refine sBox hf hs rfl rfl rfl rfl rfl (cs := [.slice A_p0_1 p0.A.length c_p0_1, .slice A_p0_2 p0.B.length c_p0_2, .slice A_p0_3 p0.C.length c_p0_3]) rfl ?_; clear hf hs; intro a w b1 hs hf
  have hs : St [] W w [.blk b1 27 [.slice A_p0_1 p0.A.length c_p0_1, .slice A_p0_2 p0.B.length c_p0_2, .slice A_p0_3 p0.C.length c_p0_3]] := hs
  refine sBox hf hs rfl rfl rfl rfl rfl (cs := [.slice A_p1_1 p1.A.length c_p1_1, .slice A_p1_2 p1.B.length c_p1_2, .slice A_p1_3 p1.C.length c_p1_3]) rfl ?_; clear hf hs; intro a w b2 hs hf
  have hs : St [] W w [.blk b1 27 [.slice A_p0_1 p0.A.length c_p0_1, .slice A_p0_2 p0.B.length c_p0_2, .slice A_p0_3 p0.C.length c_p0_3], .blk b2 27 [.slice A_p1_1 p1.A.length c_p1_1, .slice A_p1_2 p1.B.length c_p1_2, .slice A_p1_3 p1.C.length c_p1_3]] := hs
  refine sAlloc hf hs rfl rfl rfl rfl ti27 ?_; clear hf hs; intro a w b3 hs hf
  have hs : St [] W w [.blk b1 27 [.slice A_p0_1 p0.A.length c_p0_1, .slice A_p0_2 p0.B.length c_p0_2, .slice A_p0_3 p0.C.length c_p0_3], .blk b2 27 [.slice A_p1_1 p1.A.length c_p1_1, .slice A_p1_2 p1.B.length c_p1_2, .slice A_p1_3 p1.C.length c_p1_3], .blk b3 27 [.slice none 0 0, .slice none 0 0, .slice none 0 0]] := hs
  refine sY hf hs rfl rfl rfl (Y_assign rfl rfl) ?_; clear hf; intro a hf
  refine wpO_nil ?_
  refine wpL_seq ?_
  refine wpL_seq ?_
  obtain ⟨r10, hj11, hm⟩ := bind_some hm
  refine wpL_cut (fun a w => ∃ b9 : Bool, b9 = r10 ∧ Fr a 90 [(2, .pointer (some ⟨b1, 0, none⟩)), (3, .pointer (some ⟨b2, 0, none⟩)), (4, .pointer (some ⟨b3, 0, none⟩)), (19, .bool b9)] ∧ St [] W w [.blk b1 27 [.slice A_p0_1 p0.A.length c_p0_1, .slice A_p0_2 p0.B.length c_p0_2, .slice A_p0_3 p0.C.length c_p0_3], .blk b2 27 [.slice A_p1_1 p1.A.length c_p1_1, .slice A_p1_2 p1.B.length c_p1_2, .slice A_p1_3 p1.C.length c_p1_3], .blk b3 27 [.slice none 0 0, .slice none 0 0, .slice none 0 0]]) ?_ ?_
  · refine wpL_region ?_
    refine sY hf hs rfl rfl rfl (Y_load_blkS rfl rfl (i := 0) rfl ag27 ti27 rfl) ?_; clear hf; intro a hf
    obtain ⟨r12, hc13, hj11⟩ := bind_some hj11
    refine sCall hf rfl rfl rfl rfl (cap := []) rfl rfl en31 (impl_IsSystem_ok F p0 A_p0_1 p0.A.length c_p0_1 rfl A_p0_2 p0.B.length c_p0_2 rfl A_p0_3 p0.C.length c_p0_3 rfl _ _ hc13 (h_p0_1.at hs) (h_p0_2.at hs) (h_p0_3.at hs)) ?_; clear hf
    rintro _ w ⟨rfl, hs1⟩ a hf
    have hs : St [] W w [.blk b1 27 [.slice A_p0_1 p0.A.length c_p0_1, .slice A_p0_2 p0.B.length c_p0_2, .slice A_p0_3 p0.C.length c_p0_3], .blk b2 27 [.slice A_p1_1 p1.A.length c_p1_1, .slice A_p1_2 p1.B.length c_p1_2, .slice A_p1_3 p1.C.length c_p1_3], .blk b3 27 [.slice none 0 0, .slice none 0 0, .slice none 0 0]] := hs.ext hs1.below
    clear hs1
    refine sY hf hs rfl rfl rfl (Y_not rfl rfl) ?_; clear hf; intro a hf
    refine sY hf hs rfl rfl rfl (Y_move rfl rfl) ?_; clear hf; intro a hf
    refine bsplit (!r12) (fun hb14 => ?_) (fun hb14 => ?_)
    · have hj11 := bif_t hj11 hb14
      refine sNo hf rfl rfl rfl (congrArg (fun b => some (Value.bool b)) hb14) rfl rfl rfl ?_; clear hf; intro a hf
      refine sNo hf rfl rfl rfl (congrArg (fun b => some (Value.bool b)) hb14) rfl rfl rfl ?_; clear hf; intro a hf
      refine sNo hf rfl rfl rfl (congrArg (fun b => some (Value.bool b)) hb14) rfl rfl rfl ?_; clear hf; intro a hf
      refine sY hf hs rfl rfl rfl (Y_pickT rfl (congrArg (fun b => some (Value.bool b)) hb14) rfl) ?_; clear hf; intro a hf
      refine wpO_nil ?_
      refine wpL_nil (then_normal ?_)
      exact ⟨true, Option.some.inj hj11, (FrD.pick (FrD.pick (FrD.pick (FrD.pick hf.none hf rfl) hf rfl) hf rfl) hf rfl), hs⟩
    · have hj11 := bif_f hj11 hb14
      refine sYg hf hs rfl rfl rfl (congrArg (fun b => some (Value.bool b)) hb14) rfl rfl rfl (Y_load_blkS rfl rfl (i := 1) rfl ag27 ti27 rfl) ?_; clear hf; intro a hf
      obtain ⟨r15, hc16, hj11⟩ := bind_some hj11
      refine sCallg hf rfl rfl rfl (congrArg (fun b => some (Value.bool b)) hb14) rfl rfl rfl rfl (cap := []) rfl rfl en31 (impl_IsSystem_ok F p1 A_p1_1 p1.A.length c_p1_1 rfl A_p1_2 p1.B.length c_p1_2 rfl A_p1_3 p1.C.length c_p1_3 rfl _ _ hc16 (h_p1_1.at hs) (h_p1_2.at hs) (h_p1_3.at hs)) ?_; clear hf
      rintro _ w ⟨rfl, hs1⟩ a hf
      have hs : St [] W w [.blk b1 27 [.slice A_p0_1 p0.A.length c_p0_1, .slice A_p0_2 p0.B.length c_p0_2, .slice A_p0_3 p0.C.length c_p0_3], .blk b2 27 [.slice A_p1_1 p1.A.length c_p1_1, .slice A_p1_2 p1.B.length c_p1_2, .slice A_p1_3 p1.C.length c_p1_3], .blk b3 27 [.slice none 0 0, .slice none 0 0, .slice none 0 0]] := hs.ext hs1.below
      clear hs1
      refine sYg hf hs rfl rfl rfl (congrArg (fun b => some (Value.bool b)) hb14) rfl rfl rfl (Y_not rfl rfl) ?_; clear hf; intro a hf
      refine sY hf hs rfl rfl rfl (Y_pickF rfl (congrArg (fun b => some (Value.bool b)) hb14) rfl) ?_; clear hf; intro a hf
      refine wpO_nil ?_
      refine wpL_nil (then_normal ?_)
      exact ⟨(!r15), Option.some.inj hj11, (FrD.pick (FrD.pick (FrD.pick (FrD.pick hf.none hf rfl) hf rfl) hf rfl) hf rfl), hs⟩
  · rintro a w ⟨b9, hr_, hf, hs⟩
    subst hr_
    try dsimp only at hm
    refine wpL_cond hf rfl (fun hb17 => ?_) (fun hb17 => ?_)
    · have hm := bif_t hm hb17
      refine wpL_seq ?_
      refine wpL_region ?_
      refine sY hf hs rfl rfl rfl (Y_build (parts := []) (vs := []) rfl rfl (run_build (parts := []) (cells := [.slice none 0 0, .slice none 0 0, .slice none 0 0]) (places := #[(0, 1), (1, 1), (2, 1)]) ti27 Try.underlying27 (fun w => by simp [go_sem]) rfl)) ?_; clear hf; intro a hf
      refine sStore (i := 2) (us := [.slice none 0 0, .slice none 0 0, .slice none 0 0]) hf hs rfl rfl rfl rfl rfl rfl ti27 rfl rfl rfl (Nat.le_of_ble_eq_true rfl) rfl ?_; clear hs; intro w hs
      have hs : St [] W w [.blk b1 27 [.slice A_p0_1 p0.A.length c_p0_1, .slice A_p0_2 p0.B.length c_p0_2, .slice A_p0_3 p0.C.length c_p0_3], .blk b2 27 [.slice A_p1_1 p1.A.length c_p1_1, .slice A_p1_2 p1.B.length c_p1_2, .slice A_p1_3 p1.C.length c_p1_3], .blk b3 27 [.slice none 0 0, .slice none 0 0, .slice none 0 0]] := hs
      refine sY hf hs rfl rfl rfl (Y_assign rfl rfl) ?_; clear hf; intro a hf
      refine wpO_nil ?_
      have hs : St [] W _ [.blk b1 27 [.slice A_p0_1 p0.A.length c_p0_1, .slice A_p0_2 p0.B.length c_p0_2, .slice A_p0_3 p0.C.length c_p0_3], .blk b2 27 [.slice A_p1_1 p1.A.length c_p1_1, .slice A_p1_2 p1.B.length c_p1_2, .slice A_p1_3 p1.C.length c_p1_3], .blk b3 27 [.slice none 0 0, .slice none 0 0, .slice none 0 0], .mat none 0 0 23 2 [] ([] : List (List Int))] := hs.addNilM 23 2
      have hs : St [] W _ [.blk b1 27 [.slice A_p0_1 p0.A.length c_p0_1, .slice A_p0_2 p0.B.length c_p0_2, .slice A_p0_3 p0.C.length c_p0_3], .blk b2 27 [.slice A_p1_1 p1.A.length c_p1_1, .slice A_p1_2 p1.B.length c_p1_2, .slice A_p1_3 p1.C.length c_p1_3], .blk b3 27 [.slice none 0 0, .slice none 0 0, .slice none 0 0], .mat none 0 0 23 2 [] ([] : List (List Int)), .row none 0 0 2 1 (ints ([] : List Int))] := hs.addNil 2 1
      have hs : St [] W _ [.blk b1 27 [.slice A_p0_1 p0.A.length c_p0_1, .slice A_p0_2 p0.B.length c_p0_2, .slice A_p0_3 p0.C.length c_p0_3], .blk b2 27 [.slice A_p1_1 p1.A.length c_p1_1, .slice A_p1_2 p1.B.length c_p1_2, .slice A_p1_3 p1.C.length c_p1_3], .blk b3 27 [.slice none 0 0, .slice none 0 0, .slice none 0 0], .mat none 0 0 23 2 [] ([] : List (List Int)), .row none 0 0 2 1 (ints ([] : List Int)), .row none 0 0 2 1 (ints ([] : List Int))] := hs.addNil 2 1
      obtain rfl := Option.some.inj hm
      refine wpL_ret (ret_cell_tmp rfl hf rfl rfl hs (i := 2) rfl ag27 ti27 rfl ?_)
      exact ⟨_, rfl, none, 0, 0, [], none, 0, 0, none, 0, 0, rfl, rfl, rfl, rfl, hs.sel [3, 4, 5] (by decide)⟩
    · have hm := bif_f hm hb17
      refine wpL_skip ?_
      refine wpL_seq ?_
      refine wpL_region ?_
      refine sY hf hs rfl rfl rfl (Y_fieldAddr rfl rfl fo27_0) ?_; clear hf; intro a hf
      refine sY hf hs rfl rfl rfl (Y_load_blk rfl rfl (i := 0) rfl rfl ag22) ?_; clear hf; intro a hf
      refine sY hf hs rfl rfl rfl (Y_lenH rfl rfl el22 rfl) ?_; clear hf; intro a hf
      refine sY hf hs rfl rfl rfl (Y_assign rfl rfl) ?_; clear hf; intro a hf
      refine wpO_nil ?_
      refine wpL_seq ?_
      refine wpL_seq ?_
      refine wpL_region ?_
      refine sY hf hs rfl rfl rfl (Y_move rfl rfl) ?_; clear hf; intro a hf
      refine sY hf hs rfl rfl rfl (Y_fieldAddr rfl rfl fo27_0) ?_; clear hf; intro a hf
      refine sY hf hs rfl rfl rfl (Y_load_blk rfl rfl (i := 1) rfl rfl ag22) ?_; clear hf; intro a hf
      refine sY hf hs rfl rfl rfl (Y_lenH rfl rfl el22 rfl) ?_; clear hf; intro a hf
      refine sY hf hs rfl rfl rfl (Y_add rfl rfl rfl) ?_; clear hf; intro a hf
      refine sY hf hs rfl rfl rfl (Y_gtr rfl rfl rfl) ?_; clear hf; intro a hf
      refine wpO_nil ?_
      refine wpL_cond hf rfl (fun hb21 => ?_) (fun hb21 => ?_)
      · have hm := bif_t hm hb21
        refine wpL_seq ?_
        refine wpL_region ?_
        refine sY hf hs rfl rfl rfl (Y_build (parts := []) (vs := []) rfl rfl (run_build (parts := []) (cells := [.slice none 0 0, .slice none 0 0, .slice none 0 0]) (places := #[(0, 1), (1, 1), (2, 1)]) ti27 Try.underlying27 (fun w => by simp [go_sem]) rfl)) ?_; clear hf; intro a hf
        refine sStore (i := 2) (us := [.slice none 0 0, .slice none 0 0, .slice none 0 0]) hf hs rfl rfl rfl rfl rfl rfl ti27 rfl rfl rfl (Nat.le_of_ble_eq_true rfl) rfl ?_; clear hs; intro w hs
        have hs : St [] W w [.blk b1 27 [.slice A_p0_1 p0.A.length c_p0_1, .slice A_p0_2 p0.B.length c_p0_2, .slice A_p0_3 p0.C.length c_p0_3], .blk b2 27 [.slice A_p1_1 p1.A.length c_p1_1, .slice A_p1_2 p1.B.length c_p1_2, .slice A_p1_3 p1.C.length c_p1_3], .blk b3 27 [.slice none 0 0, .slice none 0 0, .slice none 0 0]] := hs
        refine sY hf hs rfl rfl rfl (Y_assign rfl rfl) ?_; clear hf; intro a hf
        refine wpO_nil ?_
        have hs : St [] W _ [.blk b1 27 [.slice A_p0_1 p0.A.length c_p0_1, .slice A_p0_2 p0.B.length c_p0_2, .slice A_p0_3 p0.C.length c_p0_3], .blk b2 27 [.slice A_p1_1 p1.A.length c_p1_1, .slice A_p1_2 p1.B.length c_p1_2, .slice A_p1_3 p1.C.length c_p1_3], .blk b3 27 [.slice none 0 0, .slice none 0 0, .slice none 0 0], .mat none 0 0 23 2 [] ([] : List (List Int))] := hs.addNilM 23 2
        have hs : St [] W _ [.blk b1 27 [.slice A_p0_1 p0.A.length c_p0_1, .slice A_p0_2 p0.B.length c_p0_2, .slice A_p0_3 p0.C.length c_p0_3], .blk b2 27 [.slice A_p1_1 p1.A.length c_p1_1, .slice A_p1_2 p1.B.length c_p1_2, .slice A_p1_3 p1.C.length c_p1_3], .blk b3 27 [.slice none 0 0, .slice none 0 0, .slice none 0 0], .mat none 0 0 23 2 [] ([] : List (List Int)), .row none 0 0 2 1 (ints ([] : List Int))] := hs.addNil 2 1
        have hs : St [] W _ [.blk b1 27 [.slice A_p0_1 p0.A.length c_p0_1, .slice A_p0_2 p0.B.length c_p0_2, .slice A_p0_3 p0.C.length c_p0_3], .blk b2 27 [.slice A_p1_1 p1.A.length c_p1_1, .slice A_p1_2 p1.B.length c_p1_2, .slice A_p1_3 p1.C.length c_p1_3], .blk b3 27 [.slice none 0 0, .slice none 0 0, .slice none 0 0], .mat none 0 0 23 2 [] ([] : List (List Int)), .row none 0 0 2 1 (ints ([] : List Int)), .row none 0 0 2 1 (ints ([] : List Int))] := hs.addNil 2 1
        obtain rfl := Option.some.inj hm
        refine wpL_ret (ret_cell_tmp rfl hf rfl rfl hs (i := 2) rfl ag27 ti27 rfl ?_)
        exact ⟨_, rfl, none, 0, 0, [], none, 0, 0, none, 0, 0, rfl, rfl, rfl, rfl, hs.sel [3, 4, 5] (by decide)⟩
      · have hm := bif_f hm hb21
        refine wpL_skip ?_
        refine wpL_seq ?_
        obtain ⟨r80, hj81, hm⟩ := bind_some hm
        refine wpL_cut (fun a w => ∃ xs75 : List Int, ∃ b74, ∃ A76, ∃ n77, ∃ c78, xs75 = r80 ∧ n77 = xs75.length ∧ Fr a 90 [(2, .pointer (some ⟨b1, 0, none⟩)), (3, .pointer (some ⟨b2, 0, none⟩)), (4, .pointer (some ⟨b3, 0, none⟩)), (6, .int .i64 (p0.A.length : Int)), (7, .pointer (some ⟨b74, 0, none⟩))] ∧ St [] W w [.blk b1 27 [.slice A_p0_1 p0.A.length c_p0_1, .slice A_p0_2 p0.B.length c_p0_2, .slice A_p0_3 p0.C.length c_p0_3], .blk b2 27 [.slice A_p1_1 p1.A.length c_p1_1, .slice A_p1_2 p1.B.length c_p1_2, .slice A_p1_3 p1.C.length c_p1_3], .blk b3 27 [.slice none 0 0, .slice none 0 0, .slice none 0 0], .blk b74 23 [.slice A76 n77 c78], .row A76 n77 c78 2 1 (ints xs75)]) ?_ ?_
        · refine wpL_drawM [.blk b1 27 [.slice A_p0_1 p0.A.length c_p0_1, .slice A_p0_2 p0.B.length c_p0_2, .slice A_p0_3 p0.C.length c_p0_3], .blk b2 27 [.slice A_p1_1 p1.A.length c_p1_1, .slice A_p1_2 p1.B.length c_p1_2, .slice A_p1_3 p1.C.length c_p1_3], .blk b3 27 [.slice none 0 0, .slice none 0 0, .slice none 0 0]] [5, 7] (by kernel_rfl) hs ?_; clear hs; intro w hs
          have hs0 : St [] W w [.blk b1 27 [.slice A_p0_1 p0.A.length c_p0_1, .slice A_p0_2 p0.B.length c_p0_2, .slice A_p0_3 p0.C.length c_p0_3], .blk b2 27 [.slice A_p1_1 p1.A.length c_p1_1, .slice A_p1_2 p1.B.length c_p1_2, .slice A_p1_3 p1.C.length c_p1_3], .blk b3 27 [.slice none 0 0, .slice none 0 0, .slice none 0 0]] := hs
          refine mYp (i := 0) rfl (by kernel_rfl) (by kernel_rfl) hf rfl rfl rfl (fun _ => Y_fieldAddr rfl rfl fo27_0) ?_; clear hf; intro a hf
          refine mY (i := 1) [[2], []] rfl (by kernel_rfl) (by kernel_rfl) hf hs0 rfl rfl rfl (Y_load_blk rfl rfl (i := 0) rfl rfl ag22) ?_; clear hf; intro a hf
          refine mYp (i := 3) rfl (by kernel_rfl) (by kernel_rfl) hf rfl rfl rfl (fun _ => Y_fieldAddr rfl rfl fo27_2) ?_; clear hf; intro a hf
          refine mY (i := 4) [[], []] rfl (by kernel_rfl) (by kernel_rfl) hf hs0 rfl rfl rfl (Y_load_blk rfl rfl (i := 0) rfl rfl ag23) ?_; clear hf; intro a hf
          refine mRun2 (i := 2) (j := 6) rfl rfl (by kernel_rfl) ?_ ?_
          · obtain ⟨r96, hc97, hj81⟩ := bind_some hj81
            refine sCall hf rfl rfl rfl rfl (cap := []) rfl rfl en84 (impl_transposed_ok F p0.A A_p0_1 p0.A.length c_p0_1 rfl _ _ hc97 (h_p0_1.at hs)) ?_; clear hf
            rintro _ w ⟨A98, n99, c100, vs102, rfl, hn101, hs1⟩ a hf
            have hs : St [] W w [.blk b1 27 [.slice A_p0_1 p0.A.length c_p0_1, .slice A_p0_2 p0.B.length c_p0_2, .slice A_p0_3 p0.C.length c_p0_3], .blk b2 27 [.slice A_p1_1 p1.A.length c_p1_1, .slice A_p1_2 p1.B.length c_p1_2, .slice A_p1_3 p1.C.length c_p1_3], .blk b3 27 [.slice none 0 0, .slice none 0 0, .slice none 0 0], .mat A98 n99 c100 23 2 vs102 r96] := hs.join hs1
            clear hs1
            have hs0 : St [] W w [.blk b1 27 [.slice A_p0_1 p0.A.length c_p0_1, .slice A_p0_2 p0.B.length c_p0_2, .slice A_p0_3 p0.C.length c_p0_3], .blk b2 27 [.slice A_p1_1 p1.A.length c_p1_1, .slice A_p1_2 p1.B.length c_p1_2, .slice A_p1_3 p1.C.length c_p1_3], .blk b3 27 [.slice none 0 0, .slice none 0 0, .slice none 0 0]] := hs.sel [0, 1, 2] (by decide)
            refine wpO_nil ⟨Or.inr (fun _ => hs0), ?_⟩
            refine mRun2 (i := 5) (j := 6) rfl rfl (by kernel_rfl) ?_ ?_
            · obtain ⟨r103, hc104, hj81⟩ := bind_some hj81
              refine sCall hf rfl rfl rfl rfl (cap := []) rfl rfl en83 (impl_timesVector_ok F r96 A98 n99 c100 hn101 p0.C A_p0_3 p0.C.length c_p0_3 rfl _ _ hc104 (hs.rdM (i := 3) rfl) (h_p0_3.at hs)) ?_; clear hf
              rintro _ w ⟨A105, n106, c107, rfl, hn108, hs1⟩ a hf
              have hs : St [] W w [.blk b1 27 [.slice A_p0_1 p0.A.length c_p0_1, .slice A_p0_2 p0.B.length c_p0_2, .slice A_p0_3 p0.C.length c_p0_3], .blk b2 27 [.slice A_p1_1 p1.A.length c_p1_1, .slice A_p1_2 p1.B.length c_p1_2, .slice A_p1_3 p1.C.length c_p1_3], .blk b3 27 [.slice none 0 0, .slice none 0 0, .slice none 0 0], .mat A98 n99 c100 23 2 vs102 r96, .row A105 n106 c107 2 1 (ints r103)] := hs.join hs1
              clear hs1
              refine wpO_nil ⟨Or.inl (by decide), ?_⟩
              refine mRun (i := 6) rfl (by kernel_rfl) ?_
              refine sAlloc hf hs rfl rfl rfl rfl ti23 ?_; clear hf hs; intro a w b109 hs hf
              have hs : St [] W w [.blk b1 27 [.slice A_p0_1 p0.A.length c_p0_1, .slice A_p0_2 p0.B.length c_p0_2, .slice A_p0_3 p0.C.length c_p0_3], .blk b2 27 [.slice A_p1_1 p1.A.length c_p1_1, .slice A_p1_2 p1.B.length c_p1_2, .slice A_p1_3 p1.C.length c_p1_3], .blk b3 27 [.slice none 0 0, .slice none 0 0, .slice none 0 0], .mat A98 n99 c100 23 2 vs102 r96, .row A105 n106 c107 2 1 (ints r103), .blk b109 23 [.slice none 0 0]] := hs
              have hs0 : St [] W w [.blk b1 27 [.slice A_p0_1 p0.A.length c_p0_1, .slice A_p0_2 p0.B.length c_p0_2, .slice A_p0_3 p0.C.length c_p0_3], .blk b2 27 [.slice A_p1_1 p1.A.length c_p1_1, .slice A_p1_2 p1.B.length c_p1_2, .slice A_p1_3 p1.C.length c_p1_3], .blk b3 27 [.slice none 0 0, .slice none 0 0, .slice none 0 0]] := hs.sel [0, 1, 2] (by decide)
              refine wpO_nil ⟨Or.inr (fun _ => hs0), ?_⟩
              refine mRun (i := 7) rfl (by kernel_rfl) ?_
              refine sStore (i := 5) (us := [.slice A105 n106 c107]) hf hs rfl rfl rfl rfl rfl rfl ti23 rfl rfl rfl (Nat.le_of_ble_eq_true rfl) rfl ?_; clear hs; intro w hs
              have hs : St [] W w [.blk b1 27 [.slice A_p0_1 p0.A.length c_p0_1, .slice A_p0_2 p0.B.length c_p0_2, .slice A_p0_3 p0.C.length c_p0_3], .blk b2 27 [.slice A_p1_1 p1.A.length c_p1_1, .slice A_p1_2 p1.B.length c_p1_2, .slice A_p1_3 p1.C.length c_p1_3], .blk b3 27 [.slice none 0 0, .slice none 0 0, .slice none 0 0], .mat A98 n99 c100 23 2 vs102 r96, .row A105 n106 c107 2 1 (ints r103), .blk b109 23 [.slice A105 n106 c107]] := hs
              refine wpO_nil ⟨Or.inl (by decide), ?_⟩
              refine mDone (by kernel_rfl) ?_
              clear hs0
              refine wpL_nil (then_normal ?_)
              exact ⟨r103, b109, A105, n106, c107, Option.some.inj hj81, hn108, (FrD.pick (FrD.pick (FrD.pick (FrD.pick (FrD.pick hf.none hf rfl) hf rfl) hf rfl) hf rfl) hf rfl), hs.sel [0, 1, 2, 5, 4] (by decide)⟩
            · refine sAlloc hf hs rfl rfl rfl rfl ti23 ?_; clear hf hs; intro a w b110 hs hf
              have hs : St [] W w [.blk b1 27 [.slice A_p0_1 p0.A.length c_p0_1, .slice A_p0_2 p0.B.length c_p0_2, .slice A_p0_3 p0.C.length c_p0_3], .blk b2 27 [.slice A_p1_1 p1.A.length c_p1_1, .slice A_p1_2 p1.B.length c_p1_2, .slice A_p1_3 p1.C.length c_p1_3], .blk b3 27 [.slice none 0 0, .slice none 0 0, .slice none 0 0], .mat A98 n99 c100 23 2 vs102 r96, .blk b110 23 [.slice none 0 0]] := hs
              have hs0 : St [] W w [.blk b1 27 [.slice A_p0_1 p0.A.length c_p0_1, .slice A_p0_2 p0.B.length c_p0_2, .slice A_p0_3 p0.C.length c_p0_3], .blk b2 27 [.slice A_p1_1 p1.A.length c_p1_1, .slice A_p1_2 p1.B.length c_p1_2, .slice A_p1_3 p1.C.length c_p1_3], .blk b3 27 [.slice none 0 0, .slice none 0 0, .slice none 0 0]] := hs.sel [0, 1, 2] (by decide)
              refine wpO_nil ⟨Or.inr (fun _ => hs0), ?_⟩
              refine mRun (i := 5) rfl (by kernel_rfl) ?_
              obtain ⟨r111, hc112, hj81⟩ := bind_some hj81
              refine sCall hf rfl rfl rfl rfl (cap := []) rfl rfl en83 (impl_timesVector_ok F r96 A98 n99 c100 hn101 p0.C A_p0_3 p0.C.length c_p0_3 rfl _ _ hc112 (hs.rdM (i := 3) rfl) (h_p0_3.at hs)) ?_; clear hf
              rintro _ w ⟨A113, n114, c115, rfl, hn116, hs1⟩ a hf
              have hs : St [] W w [.blk b1 27 [.slice A_p0_1 p0.A.length c_p0_1, .slice A_p0_2 p0.B.length c_p0_2, .slice A_p0_3 p0.C.length c_p0_3], .blk b2 27 [.slice A_p1_1 p1.A.length c_p1_1, .slice A_p1_2 p1.B.length c_p1_2, .slice A_p1_3 p1.C.length c_p1_3], .blk b3 27 [.slice none 0 0, .slice none 0 0, .slice none 0 0], .mat A98 n99 c100 23 2 vs102 r96, .blk b110 23 [.slice none 0 0], .row A113 n114 c115 2 1 (ints r111)] := hs.join hs1
              clear hs1
              refine wpO_nil ⟨Or.inl (by decide), ?_⟩
              refine mRun (i := 7) rfl (by kernel_rfl) ?_
              refine sStore (i := 4) (us := [.slice A113 n114 c115]) hf hs rfl rfl rfl rfl rfl rfl ti23 rfl rfl rfl (Nat.le_of_ble_eq_true rfl) rfl ?_; clear hs; intro w hs
              have hs : St [] W w [.blk b1 27 [.slice A_p0_1 p0.A.length c_p0_1, .slice A_p0_2 p0.B.length c_p0_2, .slice A_p0_3 p0.C.length c_p0_3], .blk b2 27 [.slice A_p1_1 p1.A.length c_p1_1, .slice A_p1_2 p1.B.length c_p1_2, .slice A_p1_3 p1.C.length c_p1_3], .blk b3 27 [.slice none 0 0, .slice none 0 0, .slice none 0 0], .mat A98 n99 c100 23 2 vs102 r96, .blk b110 23 [.slice A113 n114 c115], .row A113 n114 c115 2 1 (ints r111)] := hs
              refine wpO_nil ⟨Or.inl (by decide), ?_⟩
              refine mDone (by kernel_rfl) ?_
              clear hs0
              refine wpL_nil (then_normal ?_)
              exact ⟨r111, b110, A113, n114, c115, Option.some.inj hj81, hn116, (FrD.pick (FrD.pick (FrD.pick (FrD.pick (FrD.pick hf.none hf rfl) hf rfl) hf rfl) hf rfl) hf rfl), hs.sel [0, 1, 2, 4, 5] (by decide)⟩
          · refine sAlloc hf hs rfl rfl rfl rfl ti23 ?_; clear hf hs; intro a w b117 hs hf
            have hs : St [] W w [.blk b1 27 [.slice A_p0_1 p0.A.length c_p0_1, .slice A_p0_2 p0.B.length c_p0_2, .slice A_p0_3 p0.C.length c_p0_3], .blk b2 27 [.slice A_p1_1 p1.A.length c_p1_1, .slice A_p1_2 p1.B.length c_p1_2, .slice A_p1_3 p1.C.length c_p1_3], .blk b3 27 [.slice none 0 0, .slice none 0 0, .slice none 0 0], .blk b117 23 [.slice none 0 0]] := hs
            have hs0 : St [] W w [.blk b1 27 [.slice A_p0_1 p0.A.length c_p0_1, .slice A_p0_2 p0.B.length c_p0_2, .slice A_p0_3 p0.C.length c_p0_3], .blk b2 27 [.slice A_p1_1 p1.A.length c_p1_1, .slice A_p1_2 p1.B.length c_p1_2, .slice A_p1_3 p1.C.length c_p1_3], .blk b3 27 [.slice none 0 0, .slice none 0 0, .slice none 0 0]] := hs.sel [0, 1, 2] (by decide)
            refine wpO_nil ⟨Or.inr (fun _ => hs0), ?_⟩
            refine mRun (i := 2) rfl (by kernel_rfl) ?_
            obtain ⟨r118, hc119, hj81⟩ := bind_some hj81
            refine sCall hf rfl rfl rfl rfl (cap := []) rfl rfl en84 (impl_transposed_ok F p0.A A_p0_1 p0.A.length c_p0_1 rfl _ _ hc119 (h_p0_1.at hs)) ?_; clear hf
            rintro _ w ⟨A120, n121, c122, vs124, rfl, hn123, hs1⟩ a hf
            have hs : St [] W w [.blk b1 27 [.slice A_p0_1 p0.A.length c_p0_1, .slice A_p0_2 p0.B.length c_p0_2, .slice A_p0_3 p0.C.length c_p0_3], .blk b2 27 [.slice A_p1_1 p1.A.length c_p1_1, .slice A_p1_2 p1.B.length c_p1_2, .slice A_p1_3 p1.C.length c_p1_3], .blk b3 27 [.slice none 0 0, .slice none 0 0, .slice none 0 0], .blk b117 23 [.slice none 0 0], .mat A120 n121 c122 23 2 vs124 r118] := hs.join hs1
            clear hs1
            have hs0 : St [] W w [.blk b1 27 [.slice A_p0_1 p0.A.length c_p0_1, .slice A_p0_2 p0.B.length c_p0_2, .slice A_p0_3 p0.C.length c_p0_3], .blk b2 27 [.slice A_p1_1 p1.A.length c_p1_1, .slice A_p1_2 p1.B.length c_p1_2, .slice A_p1_3 p1.C.length c_p1_3], .blk b3 27 [.slice none 0 0, .slice none 0 0, .slice none 0 0]] := hs.sel [0, 1, 2] (by decide)
            refine wpO_nil ⟨Or.inr (fun _ => hs0), ?_⟩
            refine mRun (i := 5) rfl (by kernel_rfl) ?_
            obtain ⟨r125, hc126, hj81⟩ := bind_some hj81
            refine sCall hf rfl rfl rfl rfl (cap := []) rfl rfl en83 (impl_timesVector_ok F r118 A120 n121 c122 hn123 p0.C A_p0_3 p0.C.length c_p0_3 rfl _ _ hc126 (hs.rdM (i := 4) rfl) (h_p0_3.at hs)) ?_; clear hf
            rintro _ w ⟨A127, n128, c129, rfl, hn130, hs1⟩ a hf
            have hs : St [] W w [.blk b1 27 [.slice A_p0_1 p0.A.length c_p0_1, .slice A_p0_2 p0.B.length c_p0_2, .slice A_p0_3 p0.C.length c_p0_3], .blk b2 27 [.slice A_p1_1 p1.A.length c_p1_1, .slice A_p1_2 p1.B.length c_p1_2, .slice A_p1_3 p1.C.length c_p1_3], .blk b3 27 [.slice none 0 0, .slice none 0 0, .slice none 0 0], .blk b117 23 [.slice none 0 0], .mat A120 n121 c122 23 2 vs124 r118, .row A127 n128 c129 2 1 (ints r125)] := hs.join hs1
            clear hs1
            refine wpO_nil ⟨Or.inl (by decide), ?_⟩
            refine mRun (i := 7) rfl (by kernel_rfl) ?_
            refine sStore (i := 3) (us := [.slice A127 n128 c129]) hf hs rfl rfl rfl rfl rfl rfl ti23 rfl rfl rfl (Nat.le_of_ble_eq_true rfl) rfl ?_; clear hs; intro w hs
            have hs : St [] W w [.blk b1 27 [.slice A_p0_1 p0.A.length c_p0_1, .slice A_p0_2 p0.B.length c_p0_2, .slice A_p0_3 p0.C.length c_p0_3], .blk b2 27 [.slice A_p1_1 p1.A.length c_p1_1, .slice A_p1_2 p1.B.length c_p1_2, .slice A_p1_3 p1.C.length c_p1_3], .blk b3 27 [.slice none 0 0, .slice none 0 0, .slice none 0 0], .blk b117 23 [.slice A127 n128 c129], .mat A120 n121 c122 23 2 vs124 r118, .row A127 n128 c129 2 1 (ints r125)] := hs
            refine wpO_nil ⟨Or.inl (by decide), ?_⟩
            refine mDone (by kernel_rfl) ?_
            clear hs0
            refine wpL_nil (then_normal ?_)
            exact ⟨r125, b117, A127, n128, c129, Option.some.inj hj81, hn130, (FrD.pick (FrD.pick (FrD.pick (FrD.pick (FrD.pick hf.none hf rfl) hf rfl) hf rfl) hf rfl) hf rfl), hs.sel [0, 1, 2, 3, 5] (by decide)⟩
        · rintro a w ⟨xs75, b74, A76, n77, c78, hr_, hn79, hf, hs⟩
          subst hr_
          try dsimp only at hm
          refine wpL_seq ?_
          refine wpL_region ?_
          refine sY hf hs rfl rfl rfl (Y_fieldAddr rfl rfl fo27_2) ?_; clear hf; intro a hf
          refine sY hf hs rfl rfl rfl (Y_load_blk rfl rfl (i := 0) rfl rfl ag23) ?_; clear hf; intro a hf
          refine sY hf hs rfl rfl rfl (Y_fieldAddr rfl rfl fo27_1) ?_; clear hf; intro a hf
          refine sY hf hs rfl rfl rfl (Y_load_blk rfl rfl (i := 0) rfl rfl ag23) ?_; clear hf; intro a hf
          obtain ⟨r131, hc132, hm⟩ := bind_some hm
          refine sCall hf rfl rfl rfl rfl (cap := []) rfl rfl en85 (impl_innerProduct_ok F p0.C A_p0_3 p0.C.length c_p0_3 rfl p0.B A_p0_2 p0.B.length c_p0_2 rfl _ _ hc132 (h_p0_3.at hs) (h_p0_2.at hs)) ?_; clear hf
          rintro _ w ⟨rfl, hs1⟩ a hf
          have hs : St [] W w [.blk b1 27 [.slice A_p0_1 p0.A.length c_p0_1, .slice A_p0_2 p0.B.length c_p0_2, .slice A_p0_3 p0.C.length c_p0_3], .blk b2 27 [.slice A_p1_1 p1.A.length c_p1_1, .slice A_p1_2 p1.B.length c_p1_2, .slice A_p1_3 p1.C.length c_p1_3], .blk b3 27 [.slice none 0 0, .slice none 0 0, .slice none 0 0], .blk b74 23 [.slice A76 n77 c78], .row A76 n77 c78 2 1 (ints xs75)] := hs.ext hs1.below
          clear hs1
          refine sY hf hs rfl rfl rfl (Y_assign rfl rfl) ?_; clear hf; intro a hf
          refine wpO_nil ?_
          refine wpL_seq ?_
          refine wpL_seq ?_
          obtain ⟨r139, hj140, hm⟩ := bind_some hm
          refine wpL_cut (fun a w => ∃ b138 : Bool, b138 = r139 ∧ Fr a 90 [(2, .pointer (some ⟨b1, 0, none⟩)), (3, .pointer (some ⟨b2, 0, none⟩)), (4, .pointer (some ⟨b3, 0, none⟩)), (6, .int .i64 (p0.A.length : Int)), (7, .pointer (some ⟨b74, 0, none⟩)), (8, .int .i64 r131), (49, .bool b138)] ∧ St [] W w [.blk b1 27 [.slice A_p0_1 p0.A.length c_p0_1, .slice A_p0_2 p0.B.length c_p0_2, .slice A_p0_3 p0.C.length c_p0_3], .blk b2 27 [.slice A_p1_1 p1.A.length c_p1_1, .slice A_p1_2 p1.B.length c_p1_2, .slice A_p1_3 p1.C.length c_p1_3], .blk b3 27 [.slice none 0 0, .slice none 0 0, .slice none 0 0], .blk b74 23 [.slice A76 n77 c78], .row A76 n77 c78 2 1 (ints xs75)]) ?_ ?_
          · refine wpL_region ?_
            refine sY hf hs rfl rfl rfl (Y_load_blk rfl rfl (i := 3) rfl rfl ag23) ?_; clear hf; intro a hf
            obtain ⟨r141, hc142, hj140⟩ := bind_some hj140
            refine sCall hf rfl rfl rfl rfl (cap := []) rfl rfl en86 (impl_areValues_ok F xs75 A76 n77 c78 hn79 _ _ hc142 (hs.rd (i := 4) rfl)) ?_; clear hf
            rintro _ w ⟨rfl, hs1⟩ a hf
            have hs : St [] W w [.blk b1 27 [.slice A_p0_1 p0.A.length c_p0_1, .slice A_p0_2 p0.B.length c_p0_2, .slice A_p0_3 p0.C.length c_p0_3], .blk b2 27 [.slice A_p1_1 p1.A.length c_p1_1, .slice A_p1_2 p1.B.length c_p1_2, .slice A_p1_3 p1.C.length c_p1_3], .blk b3 27 [.slice none 0 0, .slice none 0 0, .slice none 0 0], .blk b74 23 [.slice A76 n77 c78], .row A76 n77 c78 2 1 (ints xs75)] := hs.ext hs1.below
            clear hs1
            refine sY hf hs rfl rfl rfl (Y_not rfl rfl) ?_; clear hf; intro a hf
            refine sY hf hs rfl rfl rfl (Y_move rfl rfl) ?_; clear hf; intro a hf
            refine bsplit (!r141) (fun hb143 => ?_) (fun hb143 => ?_)
            · have hj140 := bif_t hj140 hb143
              refine sNo hf rfl rfl rfl (congrArg (fun b => some (Value.bool b)) hb143) rfl rfl rfl ?_; clear hf; intro a hf
              refine sNo hf rfl rfl rfl (congrArg (fun b => some (Value.bool b)) hb143) rfl rfl rfl ?_; clear hf; intro a hf
              refine sNo hf rfl rfl rfl (congrArg (fun b => some (Value.bool b)) hb143) rfl rfl rfl ?_; clear hf; intro a hf
              refine sY hf hs rfl rfl rfl (Y_pickT rfl (congrArg (fun b => some (Value.bool b)) hb143) rfl) ?_; clear hf; intro a hf
              refine wpO_nil ?_
              refine wpL_nil (then_normal ?_)
              exact ⟨true, Option.some.inj hj140, (FrD.pick (FrD.pick (FrD.pick (FrD.pick (FrD.pick (FrD.pick (FrD.pick hf.none hf rfl) hf rfl) hf rfl) hf rfl) hf rfl) hf rfl) hf rfl), hs⟩
            · have hj140 := bif_f hj140 hb143
              refine sYg hf hs rfl rfl rfl (congrArg (fun b => some (Value.bool b)) hb143) rfl rfl rfl (Y_move rfl rfl) ?_; clear hf; intro a hf
              obtain ⟨r144, hc145, hj140⟩ := bind_some hj140
              refine sCallg hf rfl rfl rfl (congrArg (fun b => some (Value.bool b)) hb143) rfl rfl rfl rfl (cap := []) rfl rfl en87 (impl_IsValue_ok F r131 _ _ hc145) ?_; clear hf
              rintro _ w ⟨rfl, hs1⟩ a hf
              have hs : St [] W w [.blk b1 27 [.slice A_p0_1 p0.A.length c_p0_1, .slice A_p0_2 p0.B.length c_p0_2, .slice A_p0_3 p0.C.length c_p0_3], .blk b2 27 [.slice A_p1_1 p1.A.length c_p1_1, .slice A_p1_2 p1.B.length c_p1_2, .slice A_p1_3 p1.C.length c_p1_3], .blk b3 27 [.slice none 0 0, .slice none 0 0, .slice none 0 0], .blk b74 23 [.slice A76 n77 c78], .row A76 n77 c78 2 1 (ints xs75)] := hs.ext hs1.below
              clear hs1
              refine sYg hf hs rfl rfl rfl (congrArg (fun b => some (Value.bool b)) hb143) rfl rfl rfl (Y_not rfl rfl) ?_; clear hf; intro a hf
              refine sY hf hs rfl rfl rfl (Y_pickF rfl (congrArg (fun b => some (Value.bool b)) hb143) rfl) ?_; clear hf; intro a hf
              refine wpO_nil ?_
              refine wpL_nil (then_normal ?_)
              exact ⟨(!r144), Option.some.inj hj140, (FrD.pick (FrD.pick (FrD.pick (FrD.pick (FrD.pick (FrD.pick (FrD.pick hf.none hf rfl) hf rfl) hf rfl) hf rfl) hf rfl) hf rfl) hf rfl), hs⟩
          · rintro a w ⟨b138, hr_, hf, hs⟩
            subst hr_
            try dsimp only at hm
            refine wpL_cond hf rfl (fun hb146 => ?_) (fun hb146 => ?_)
            · have hm := bif_t hm hb146
              refine wpL_seq ?_
              refine wpL_region ?_
              refine sY hf hs rfl rfl rfl (Y_build (parts := []) (vs := []) rfl rfl (run_build (parts := []) (cells := [.slice none 0 0, .slice none 0 0, .slice none 0 0]) (places := #[(0, 1), (1, 1), (2, 1)]) ti27 Try.underlying27 (fun w => by simp [go_sem]) rfl)) ?_; clear hf; intro a hf
              refine sStore (i := 2) (us := [.slice none 0 0, .slice none 0 0, .slice none 0 0]) hf hs rfl rfl rfl rfl rfl rfl ti27 rfl rfl rfl (Nat.le_of_ble_eq_true rfl) rfl ?_; clear hs; intro w hs
              have hs : St [] W w [.blk b1 27 [.slice A_p0_1 p0.A.length c_p0_1, .slice A_p0_2 p0.B.length c_p0_2, .slice A_p0_3 p0.C.length c_p0_3], .blk b2 27 [.slice A_p1_1 p1.A.length c_p1_1, .slice A_p1_2 p1.B.length c_p1_2, .slice A_p1_3 p1.C.length c_p1_3], .blk b3 27 [.slice none 0 0, .slice none 0 0, .slice none 0 0], .blk b74 23 [.slice A76 n77 c78], .row A76 n77 c78 2 1 (ints xs75)] := hs
              refine sY hf hs rfl rfl rfl (Y_assign rfl rfl) ?_; clear hf; intro a hf
              refine wpO_nil ?_
              have hs : St [] W _ [.blk b1 27 [.slice A_p0_1 p0.A.length c_p0_1, .slice A_p0_2 p0.B.length c_p0_2, .slice A_p0_3 p0.C.length c_p0_3], .blk b2 27 [.slice A_p1_1 p1.A.length c_p1_1, .slice A_p1_2 p1.B.length c_p1_2, .slice A_p1_3 p1.C.length c_p1_3], .blk b3 27 [.slice none 0 0, .slice none 0 0, .slice none 0 0], .blk b74 23 [.slice A76 n77 c78], .row A76 n77 c78 2 1 (ints xs75), .mat none 0 0 23 2 [] ([] : List (List Int))] := hs.addNilM 23 2
              have hs : St [] W _ [.blk b1 27 [.slice A_p0_1 p0.A.length c_p0_1, .slice A_p0_2 p0.B.length c_p0_2, .slice A_p0_3 p0.C.length c_p0_3], .blk b2 27 [.slice A_p1_1 p1.A.length c_p1_1, .slice A_p1_2 p1.B.length c_p1_2, .slice A_p1_3 p1.C.length c_p1_3], .blk b3 27 [.slice none 0 0, .slice none 0 0, .slice none 0 0], .blk b74 23 [.slice A76 n77 c78], .row A76 n77 c78 2 1 (ints xs75), .mat none 0 0 23 2 [] ([] : List (List Int)), .row none 0 0 2 1 (ints ([] : List Int))] := hs.addNil 2 1
              have hs : St [] W _ [.blk b1 27 [.slice A_p0_1 p0.A.length c_p0_1, .slice A_p0_2 p0.B.length c_p0_2, .slice A_p0_3 p0.C.length c_p0_3], .blk b2 27 [.slice A_p1_1 p1.A.length c_p1_1, .slice A_p1_2 p1.B.length c_p1_2, .slice A_p1_3 p1.C.length c_p1_3], .blk b3 27 [.slice none 0 0, .slice none 0 0, .slice none 0 0], .blk b74 23 [.slice A76 n77 c78], .row A76 n77 c78 2 1 (ints xs75), .mat none 0 0 23 2 [] ([] : List (List Int)), .row none 0 0 2 1 (ints ([] : List Int)), .row none 0 0 2 1 (ints ([] : List Int))] := hs.addNil 2 1
              obtain rfl := Option.some.inj hm
              refine wpL_ret (ret_cell_tmp rfl hf rfl rfl hs (i := 2) rfl ag27 ti27 rfl ?_)
              exact ⟨_, rfl, none, 0, 0, [], none, 0, 0, none, 0, 0, rfl, rfl, rfl, rfl, hs.sel [5, 6, 7] (by decide)⟩
            · have hm := bif_f hm hb146
              refine wpL_skip ?_
              refine wpL_seq ?_
              refine wpL_region ?_
              refine sY hf hs rfl rfl rfl (Y_fieldAddr rfl rfl fo27_0) ?_; clear hf; intro a hf
              refine sY hf hs rfl rfl rfl (Y_load_blk rfl rfl (i := 0) rfl rfl ag22) ?_; clear hf; intro a hf
              refine sY hf hs rfl rfl rfl (Y_fieldAddr rfl rfl fo27_0) ?_; clear hf; intro a hf
              refine sY hf hs rfl rfl rfl (Y_load_blk rfl rfl (i := 1) rfl rfl ag22) ?_; clear hf; intro a hf
              refine sY hf hs rfl rfl rfl (Y_makeFunc (us := []) (vs := [.pointer (some ⟨b2, 0, none⟩), .pointer (some ⟨b74, 0, none⟩)]) rfl rfl rfl) ?_; clear hf; intro a hf
              obtain ⟨r150, hc151, hm⟩ := bind_some hm
              refine sCall hf rfl rfl rfl rfl (cap := []) rfl rfl en88 (impl_blocks_ok F p0.A A_p0_1 p0.A.length c_p0_1 rfl p1.A A_p1_1 p1.A.length c_p1_1 rfl (fun x0 x1 => impl_SeriesSystem_c1 F x0 x1 p1 xs75) 89 ([.pointer (some ⟨b2, 0, none⟩), .pointer (some ⟨b74, 0, none⟩)]) _ _ hc151 (h_p0_1.at hs) (h_p1_1.at hs) (fun x0 x1 r w' hm_ hb => impl_SeriesSystem_c1_ok F x0 x1 b2 p1 A_p1_1 p1.A.length c_p1_1 rfl A_p1_2 p1.B.length c_p1_2 rfl A_p1_3 p1.C.length c_p1_3 rfl b74 xs75 A76 n77 c78 hn79 r w' hm_ ((h_p1_1.at hs).below hb (Nat.le_refl _)) ((h_p1_2.at hs).below hb (Nat.le_refl _)) ((h_p1_3.at hs).below hb (Nat.le_refl _)) ((hs.pb (i := 1) rfl).below hb (Nat.le_refl _)) ((hs.rd (i := 4) rfl).below hb (Nat.le_refl _)) ((hs.pb (i := 3) rfl).below hb (Nat.le_refl _))) en89) ?_; clear hf
              rintro _ w ⟨A152, n153, c154, vs156, rfl, hn155, hs1⟩ a hf
              have hs : St [] W w [.blk b1 27 [.slice A_p0_1 p0.A.length c_p0_1, .slice A_p0_2 p0.B.length c_p0_2, .slice A_p0_3 p0.C.length c_p0_3], .blk b2 27 [.slice A_p1_1 p1.A.length c_p1_1, .slice A_p1_2 p1.B.length c_p1_2, .slice A_p1_3 p1.C.length c_p1_3], .blk b3 27 [.slice none 0 0, .slice none 0 0, .slice none 0 0], .blk b74 23 [.slice A76 n77 c78], .row A76 n77 c78 2 1 (ints xs75), .mat A152 n153 c154 23 2 vs156 r150] := hs.join hs1
              clear hs1
              refine sY hf hs rfl rfl rfl (Y_build (parts := [(0, .tmp 56)]) (vs := [.slice A152 n153 c154]) rfl rfl (run_build (parts := [(0, .slice A152 n153 c154)]) (cells := [.slice A152 n153 c154, .slice none 0 0, .slice none 0 0]) (places := #[(0, 1), (1, 1), (2, 1)]) ti27 Try.underlying27 (fun w => by simp [go_sem]) rfl)) ?_; clear hf; intro a hf
              refine sAlloc hf hs rfl rfl rfl rfl ti27 ?_; clear hf hs; intro a w b157 hs hf
              have hs : St [] W w [.blk b1 27 [.slice A_p0_1 p0.A.length c_p0_1, .slice A_p0_2 p0.B.length c_p0_2, .slice A_p0_3 p0.C.length c_p0_3], .blk b2 27 [.slice A_p1_1 p1.A.length c_p1_1, .slice A_p1_2 p1.B.length c_p1_2, .slice A_p1_3 p1.C.length c_p1_3], .blk b3 27 [.slice none 0 0, .slice none 0 0, .slice none 0 0], .blk b74 23 [.slice A76 n77 c78], .row A76 n77 c78 2 1 (ints xs75), .mat A152 n153 c154 23 2 vs156 r150, .blk b157 27 [.slice none 0 0, .slice none 0 0, .slice none 0 0]] := hs
              refine sStore (i := 6) (us := [.slice A152 n153 c154, .slice none 0 0, .slice none 0 0]) hf hs rfl rfl rfl rfl rfl rfl ti27 rfl rfl rfl (Nat.le_of_ble_eq_true rfl) rfl ?_; clear hs; intro w hs
              have hs : St [] W w [.blk b1 27 [.slice A_p0_1 p0.A.length c_p0_1, .slice A_p0_2 p0.B.length c_p0_2, .slice A_p0_3 p0.C.length c_p0_3], .blk b2 27 [.slice A_p1_1 p1.A.length c_p1_1, .slice A_p1_2 p1.B.length c_p1_2, .slice A_p1_3 p1.C.length c_p1_3], .blk b3 27 [.slice none 0 0, .slice none 0 0, .slice none 0 0], .blk b74 23 [.slice A76 n77 c78], .row A76 n77 c78 2 1 (ints xs75), .mat A152 n153 c154 23 2 vs156 r150, .blk b157 27 [.slice A152 n153 c154, .slice none 0 0, .slice none 0 0]] := hs
              refine wpO_nil ?_
              refine wpL_seq ?_
              refine wpL_region ?_
              refine sY hf hs rfl rfl rfl (Y_fieldAddr rfl rfl fo27_1) ?_; clear hf; intro a hf
              refine sY hf hs rfl rfl rfl (Y_load_blk rfl rfl (i := 0) rfl rfl ag23) ?_; clear hf; intro a hf
              obtain ⟨r158, hc159, hm⟩ := bind_some hm
              refine sCall hf rfl rfl rfl rfl (cap := []) rfl rfl en91 (slices_Clone_int64_ok F p0.B A_p0_2 p0.B.length c_p0_2 rfl _ _ hc159 (h_p0_2.at hs)) ?_; clear hf
              rintro _ w ⟨A160, n161, c162, rfl, hn163, hs1⟩ a hf
              have hs : St [] W w [.blk b1 27 [.slice A_p0_1 p0.A.length c_p0_1, .slice A_p0_2 p0.B.length c_p0_2, .slice A_p0_3 p0.C.length c_p0_3], .blk b2 27 [.slice A_p1_1 p1.A.length c_p1_1, .slice A_p1_2 p1.B.length c_p1_2, .slice A_p1_3 p1.C.length c_p1_3], .blk b3 27 [.slice none 0 0, .slice none 0 0, .slice none 0 0], .blk b74 23 [.slice A76 n77 c78], .row A76 n77 c78 2 1 (ints xs75), .mat A152 n153 c154 23 2 vs156 r150, .blk b157 27 [.slice A152 n153 c154, .slice none 0 0, .slice none 0 0], .row A160 n161 c162 2 1 (ints r158)] := hs.join hs1
              clear hs1
              refine sY hf hs rfl rfl rfl (Y_fieldAddr rfl rfl fo27_1) ?_; clear hf; intro a hf
              refine sStore (i := 6) (us := [.slice A160 n161 c162]) hf hs rfl rfl rfl rfl rfl rfl ti23 rfl rfl rfl (Nat.le_of_ble_eq_true rfl) rfl ?_; clear hs; intro w hs
              have hs : St [] W w [.blk b1 27 [.slice A_p0_1 p0.A.length c_p0_1, .slice A_p0_2 p0.B.length c_p0_2, .slice A_p0_3 p0.C.length c_p0_3], .blk b2 27 [.slice A_p1_1 p1.A.length c_p1_1, .slice A_p1_2 p1.B.length c_p1_2, .slice A_p1_3 p1.C.length c_p1_3], .blk b3 27 [.slice none 0 0, .slice none 0 0, .slice none 0 0], .blk b74 23 [.slice A76 n77 c78], .row A76 n77 c78 2 1 (ints xs75), .mat A152 n153 c154 23 2 vs156 r150, .blk b157 27 [.slice A152 n153 c154, .slice A160 n161 c162, .slice none 0 0], .row A160 n161 c162 2 1 (ints r158)] := hs
              refine wpO_nil ?_
              refine wpL_seq ?_
              refine wpL_seq ?_
              refine wpL_region ?_
              refine sY hf hs rfl rfl rfl (Y_fieldAddr rfl rfl fo27_1) ?_; clear hf; intro a hf
              refine sY hf hs rfl rfl rfl (Y_load_blk rfl rfl (i := 1) rfl rfl ag23) ?_; clear hf; intro a hf
              refine sY hf hs rfl rfl rfl (Y_lenH rfl rfl el23 rfl) ?_; clear hf; intro a hf
              refine sY hf hs rfl rfl rfl (Y_move rfl rfl) ?_; clear hf; intro a hf
              refine wpO_nil ?_
              obtain ⟨r238, hl239, hm⟩ := bind_some hm
              refine wpL_block (fun a w => ∃ xs233 : List Int, ∃ A234, ∃ n235, ∃ c236, xs233 = r238 ∧ n235 = xs233.length ∧ Fr a 90 [(3, .pointer (some ⟨b2, 0, none⟩)), (4, .pointer (some ⟨b3, 0, none⟩)), (6, .int .i64 (p0.A.length : Int)), (9, .pointer (some ⟨b157, 0, none⟩))] ∧ St [] W w [.blk b2 27 [.slice A_p1_1 p1.A.length c_p1_1, .slice A_p1_2 p1.B.length c_p1_2, .slice A_p1_3 p1.C.length c_p1_3], .blk b3 27 [.slice none 0 0, .slice none 0 0, .slice none 0 0], .blk b157 27 [.slice A152 n153 c154, .slice A234 n235 c236, .slice none 0 0], .mat A152 n153 c154 23 2 vs156 r150, .row A234 n235 c236 2 1 (ints xs233)]) ?_ ?_
              · refine wpL_loop (fun n a w => ∃ xs208 : List Int, ∃ x213 : Int, ∃ A209, ∃ n210, ∃ c211, impl_SeriesSystem_L1 F p1 r131 n xs208 x213 = some r238 ∧ n210 = xs208.length ∧ Fr a 90 [(3, .pointer (some ⟨b2, 0, none⟩)), (4, .pointer (some ⟨b3, 0, none⟩)), (6, .int .i64 (p0.A.length : Int)), (8, .int .i64 r131), (9, .pointer (some ⟨b157, 0, none⟩)), (63, .slice A_p1_2 p1.B.length c_p1_2), (64, .int .i64 (p1.B.length : Int)), (65, .int .i64 x213)] ∧ St [] W w [.blk b2 27 [.slice A_p1_1 p1.A.length c_p1_1, .slice A_p1_2 p1.B.length c_p1_2, .slice A_p1_3 p1.C.length c_p1_3], .blk b3 27 [.slice none 0 0, .slice none 0 0, .slice none 0 0], .blk b157 27 [.slice A152 n153 c154, .slice A209 n210 c211, .slice none 0 0], .mat A152 n153 c154 23 2 vs156 r150, .row A209 n210 c211 2 1 (ints xs208)]) F ?_ ?_ ?_
                · exact ⟨r158, 0, A160, n161, c162, hl239, hn163, (FrD.pick (FrD.pick (FrD.pick (FrD.pick (FrD.pick (FrD.pick (FrD.pick (FrD.pick hf.none hf rfl) hf rfl) hf rfl) hf rfl) hf rfl) hf rfl) hf rfl) hf rfl), hs.sel [1, 2, 6, 5, 7] (by decide)⟩
                · rintro a w ⟨xs208, x213, A209, n210, c211, h0_, -, -, -⟩; simp [impl_SeriesSystem_L1] at h0_
                · rintro n241 a w ⟨xs208, x213, A209, n210, c211, hm240, hn212, hf, hs⟩
                  rw [impl_SeriesSystem_L1] at hm240
                  refine wpL_seq ?_
                  refine wpL_region ?_
                  refine sY hf hs rfl rfl rfl (Y_lss rfl rfl rfl) ?_; clear hf; intro a hf
                  refine wpO_nil ?_
                  refine wpL_seq ?_
                  refine wpL_cond hf rfl (fun hb242 => ?_) (fun hb242 => ?_)
                  · have hm240 := bif_t hm240 hb242
                    refine wpL_skip ?_
                    refine wpL_seq ?_
                    refine wpL_block0 ?_
                    refine wpL_seq ?_
                    refine wpL_region ?_
                    obtain ⟨q243, hi244, hm240⟩ := bind_some hm240
                    obtain ⟨hi244a, hi244b, hi244q⟩ := idx_some hi244
                    refine sY hf hs rfl rfl rfl (Y_index rfl rfl rfl el23 ti2 (Rd.isAt (h_p1_2.at hs) (at1 (ints_at hi244q))) hi244a hi244b) ?_; clear hf; intro a hf
                    refine sY hf hs rfl rfl rfl (Y_load_rd rfl rfl (fun w hs => h_p1_2.at hs) (at1 (ints_at hi244q)) ag2) ?_; clear hf; intro a hf
                    refine sY hf hs rfl rfl rfl (Y_assign rfl rfl) ?_; clear hf; intro a hf
                    refine wpO_nil ?_
                    refine wpL_drawM [.blk b2 27 [.slice A_p1_1 p1.A.length c_p1_1, .slice A_p1_2 p1.B.length c_p1_2, .slice A_p1_3 p1.C.length c_p1_3], .blk b3 27 [.slice none 0 0, .slice none 0 0, .slice none 0 0], .blk b157 27 [.slice A152 n153 c154, .slice A209 n210 c211, .slice none 0 0], .mat A152 n153 c154 23 2 vs156 r150, .row A209 n210 c211 2 1 (ints xs208)] [6, 8] (by kernel_rfl) hs ?_; clear hs; intro w hs
                    have hs0 : St [] W w [.blk b2 27 [.slice A_p1_1 p1.A.length c_p1_1, .slice A_p1_2 p1.B.length c_p1_2, .slice A_p1_3 p1.C.length c_p1_3], .blk b3 27 [.slice none 0 0, .slice none 0 0, .slice none 0 0], .blk b157 27 [.slice A152 n153 c154, .slice A209 n210 c211, .slice none 0 0], .mat A152 n153 c154 23 2 vs156 r150, .row A209 n210 c211 2 1 (ints xs208)] := hs
                    refine mYp (i := 0) rfl (by kernel_rfl) (by kernel_rfl) hf rfl rfl rfl (fun _ => Y_fieldAddr rfl rfl fo27_1) ?_; clear hf; intro a hf
                    refine mY (i := 1) [[], []] rfl (by kernel_rfl) (by kernel_rfl) hf hs0 rfl rfl rfl (Y_load_blk rfl rfl (i := 2) rfl rfl ag23) ?_; clear hf; intro a hf
                    refine mYp (i := 2) rfl (by kernel_rfl) (by kernel_rfl) hf rfl rfl rfl (fun _ => Y_move rfl rfl) ?_; clear hf; intro a hf
                    refine mYp (i := 3) rfl (by kernel_rfl) (by kernel_rfl) hf rfl rfl rfl (fun _ => Y_move rfl rfl) ?_; clear hf; intro a hf
                    refine mRun (i := 4) rfl (by kernel_rfl) ?_
                    obtain ⟨r253, hc254, hm240⟩ := bind_some hm240
                    refine sCall hf rfl rfl rfl rfl (cap := []) rfl rfl en90 (impl_times_ok F q243 r131 _ _ hc254) ?_; clear hf
                    rintro _ w ⟨rfl, hs1⟩ a hf
                    have hs : St [] W w [.blk b2 27 [.slice A_p1_1 p1.A.length c_p1_1, .slice A_p1_2 p1.B.length c_p1_2, .slice A_p1_3 p1.C.length c_p1_3], .blk b3 27 [.slice none 0 0, .slice none 0 0, .slice none 0 0], .blk b157 27 [.slice A152 n153 c154, .slice A209 n210 c211, .slice none 0 0], .mat A152 n153 c154 23 2 vs156 r150, .row A209 n210 c211 2 1 (ints xs208)] := hs.ext hs1.below
                    clear hs1
                    have hs0 : St [] W w [.blk b2 27 [.slice A_p1_1 p1.A.length c_p1_1, .slice A_p1_2 p1.B.length c_p1_2, .slice A_p1_3 p1.C.length c_p1_3], .blk b3 27 [.slice none 0 0, .slice none 0 0, .slice none 0 0], .blk b157 27 [.slice A152 n153 c154, .slice A209 n210 c211, .slice none 0 0], .mat A152 n153 c154 23 2 vs156 r150, .row A209 n210 c211 2 1 (ints xs208)] := hs
                    refine wpO_nil ⟨Or.inr (fun _ => hs0), ?_⟩
                    refine mRun (i := 5) rfl (by kernel_rfl) ?_
                    refine sBuildSlice (parts := [(0, .tmp 73)]) (vs := [.int .i64 r253]) (cells := [.int .i64 r253]) hf hs rfl rfl rfl rfl rfl el23 ti2 rfl rfl rfl rfl ?_; clear hf hs; intro a w A255 hs hA256 hf
                    have hs : St [] W w [.blk b2 27 [.slice A_p1_1 p1.A.length c_p1_1, .slice A_p1_2 p1.B.length c_p1_2, .slice A_p1_3 p1.C.length c_p1_3], .blk b3 27 [.slice none 0 0, .slice none 0 0, .slice none 0 0], .blk b157 27 [.slice A152 n153 c154, .slice A209 n210 c211, .slice none 0 0], .mat A152 n153 c154 23 2 vs156 r150, .row A209 n210 c211 2 1 (ints xs208), .row A255 1 1 2 1 (ints ([r253]))] := hs
                    have hs0 : St [] W w [.blk b2 27 [.slice A_p1_1 p1.A.length c_p1_1, .slice A_p1_2 p1.B.length c_p1_2, .slice A_p1_3 p1.C.length c_p1_3], .blk b3 27 [.slice none 0 0, .slice none 0 0, .slice none 0 0], .blk b157 27 [.slice A152 n153 c154, .slice A209 n210 c211, .slice none 0 0], .mat A152 n153 c154 23 2 vs156 r150, .row A209 n210 c211 2 1 (ints xs208)] := hs.sel [0, 1, 2, 3, 4] (by decide)
                    refine wpO_nil ⟨Or.inr (fun _ => hs0), ?_⟩
                    refine mRun (i := 6) rfl (by kernel_rfl) ?_
                    obtain ⟨xs259, ha260, hm240⟩ := bind_some hm240
                    refine sAppendL (i := 4) (xs := xs208) (ys := [r253]) (enc := ints) hf hs rfl rfl rfl rfl rfl rfl hn212 rfl rfl ha260 el23 ti2 rfl rfl rfl (hs.rd (i := 5) rfl) (Nat.succ_pos _) ints_len1 ints_append ints_one ?_; clear hf hs; intro a w A257 c258 hs hf
                    have hs : St [] W w [.blk b2 27 [.slice A_p1_1 p1.A.length c_p1_1, .slice A_p1_2 p1.B.length c_p1_2, .slice A_p1_3 p1.C.length c_p1_3], .blk b3 27 [.slice none 0 0, .slice none 0 0, .slice none 0 0], .blk b157 27 [.slice A152 n153 c154, .slice A209 n210 c211, .slice none 0 0], .mat A152 n153 c154 23 2 vs156 r150, .row A257 xs259.length c258 2 1 (ints xs259), .row A255 1 1 2 1 (ints ([r253]))] := hs
                    refine wpO_nil ⟨Or.inl (by decide), ?_⟩
                    refine mYp (i := 7) rfl (by kernel_rfl) (by kernel_rfl) hf rfl rfl rfl (fun _ => Y_fieldAddr rfl rfl fo27_1) ?_; clear hf; intro a hf
                    refine mRun (i := 8) rfl (by kernel_rfl) ?_
                    refine sStore (i := 2) (us := [.slice A257 xs259.length c258]) hf hs rfl rfl rfl rfl rfl rfl ti23 rfl rfl rfl (Nat.le_of_ble_eq_true rfl) rfl ?_; clear hs; intro w hs
                    have hs : St [] W w [.blk b2 27 [.slice A_p1_1 p1.A.length c_p1_1, .slice A_p1_2 p1.B.length c_p1_2, .slice A_p1_3 p1.C.length c_p1_3], .blk b3 27 [.slice none 0 0, .slice none 0 0, .slice none 0 0], .blk b157 27 [.slice A152 n153 c154, .slice A257 xs259.length c258, .slice none 0 0], .mat A152 n153 c154 23 2 vs156 r150, .row A257 xs259.length c258 2 1 (ints xs259), .row A255 1 1 2 1 (ints ([r253]))] := hs
                    refine wpO_nil ⟨Or.inl (by decide), ?_⟩
                    refine mDone (by kernel_rfl) ?_
                    clear hs0
                    refine wpL_nil (Qb_normal ?_)
                    refine wpL_region ?_
                    refine sY hf hs rfl rfl rfl (Y_add rfl rfl rfl) ?_; clear hf; intro a hf
                    refine sY hf hs rfl rfl rfl (Y_move rfl rfl) ?_; clear hf; intro a hf
                    refine wpO_nil ?_
                    refine wpL_nil (Ql_normal ?_)
                    exact ⟨xs259, (IntKind.i64.wrap (x213 + 1)), A257, xs259.length, c258, hm240, rfl, (FrD.pick (FrD.pick (FrD.pick (FrD.pick (FrD.pick (FrD.pick (FrD.pick (FrD.pick hf.none hf rfl) hf rfl) hf rfl) hf rfl) hf rfl) hf rfl) hf rfl) hf rfl), hs.sel [0, 1, 2, 3, 4] (by decide)⟩
                  · have hm240 := bif_f hm240 hb242
                    refine wpL_exit (Ql_exit (Qb_exit ?_))
                    exact ⟨xs208, A209, n210, c211, Option.some.inj hm240, hn212, (FrD.pick (FrD.pick (FrD.pick (FrD.pick hf.none hf rfl) hf rfl) hf rfl) hf rfl), hs⟩
              · rintro a w ⟨xs233, A234, n235, c236, hr_, hn237, hf, hs⟩
                subst hr_
                try dsimp only at hm
                refine wpL_seq ?_
                refine wpL_drawM [.blk b2 27 [.slice A_p1_1 p1.A.length c_p1_1, .slice A_p1_2 p1.B.length c_p1_2, .slice A_p1_3 p1.C.length c_p1_3], .blk b3 27 [.slice none 0 0, .slice none 0 0, .slice none 0 0], .blk b157 27 [.slice A152 n153 c154, .slice A234 n235 c236, .slice none 0 0], .mat A152 n153 c154 23 2 vs156 r150, .row A234 n235 c236 2 1 (ints xs233)] [5, 6, 8] (by kernel_rfl) hs ?_; clear hs; intro w hs
                have hs0 : St [] W w [.blk b2 27 [.slice A_p1_1 p1.A.length c_p1_1, .slice A_p1_2 p1.B.length c_p1_2, .slice A_p1_3 p1.C.length c_p1_3], .blk b3 27 [.slice none 0 0, .slice none 0 0, .slice none 0 0], .blk b157 27 [.slice A152 n153 c154, .slice A234 n235 c236, .slice none 0 0], .mat A152 n153 c154 23 2 vs156 r150, .row A234 n235 c236 2 1 (ints xs233)] := hs
                refine mYp (i := 1) rfl (by kernel_rfl) (by kernel_rfl) hf rfl rfl rfl (fun _ => Y_move rfl rfl) ?_; clear hf; intro a hf
                refine mYp (i := 3) rfl (by kernel_rfl) (by kernel_rfl) hf rfl rfl rfl (fun _ => Y_fieldAddr rfl rfl fo27_2) ?_; clear hf; intro a hf
                refine mY (i := 4) [[], [5], []] rfl (by kernel_rfl) (by kernel_rfl) hf hs0 rfl rfl rfl (Y_load_blk rfl rfl (i := 0) rfl rfl ag23) ?_; clear hf; intro a hf
                refine mRun (i := 0) rfl (by kernel_rfl) ?_
                refine sBuildSlice (parts := [(0, .const (.int .i64 (-1000000000000000)))]) (vs := [.int .i64 (-1000000000000000)]) (cells := [.int .i64 (-1000000000000000)]) hf hs rfl rfl rfl rfl rfl el23 ti2 rfl rfl rfl rfl ?_; clear hf hs; intro a w A277 hs hA278 hf
                have hs : St [] W w [.blk b2 27 [.slice A_p1_1 p1.A.length c_p1_1, .slice A_p1_2 p1.B.length c_p1_2, .slice A_p1_3 p1.C.length c_p1_3], .blk b3 27 [.slice none 0 0, .slice none 0 0, .slice none 0 0], .blk b157 27 [.slice A152 n153 c154, .slice A234 n235 c236, .slice none 0 0], .mat A152 n153 c154 23 2 vs156 r150, .row A234 n235 c236 2 1 (ints xs233), .row A277 1 1 2 1 (ints ([(-1000000000000000)]))] := hs
                have hs0 : St [] W w [.blk b2 27 [.slice A_p1_1 p1.A.length c_p1_1, .slice A_p1_2 p1.B.length c_p1_2, .slice A_p1_3 p1.C.length c_p1_3], .blk b3 27 [.slice none 0 0, .slice none 0 0, .slice none 0 0], .blk b157 27 [.slice A152 n153 c154, .slice A234 n235 c236, .slice none 0 0], .mat A152 n153 c154 23 2 vs156 r150, .row A234 n235 c236 2 1 (ints xs233)] := hs.sel [0, 1, 2, 3, 4] (by decide)
                refine wpO_nil ⟨Or.inr (fun _ => hs0), ?_⟩
                refine mRun (i := 2) rfl (by kernel_rfl) ?_
                obtain ⟨r279, hc280, hm⟩ := bind_some hm
                refine sCall hf rfl rfl rfl rfl (cap := []) rfl rfl en93 (slices_Repeat_int64_ok F ([(-1000000000000000)]) A277 1 1 rfl (p0.A.length : Int) _ _ hc280 (hs.rd (i := 5) rfl)) ?_; clear hf
                rintro _ w ⟨A281, n282, c283, rfl, hn284, hs1⟩ a hf
                have hs : St [] W w [.blk b2 27 [.slice A_p1_1 p1.A.length c_p1_1, .slice A_p1_2 p1.B.length c_p1_2, .slice A_p1_3 p1.C.length c_p1_3], .blk b3 27 [.slice none 0 0, .slice none 0 0, .slice none 0 0], .blk b157 27 [.slice A152 n153 c154, .slice A234 n235 c236, .slice none 0 0], .mat A152 n153 c154 23 2 vs156 r150, .row A234 n235 c236 2 1 (ints xs233), .row A277 1 1 2 1 (ints ([(-1000000000000000)])), .row A281 n282 c283 2 1 (ints r279)] := hs.join hs1
                clear hs1
                have hs0 : St [] W w [.blk b2 27 [.slice A_p1_1 p1.A.length c_p1_1, .slice A_p1_2 p1.B.length c_p1_2, .slice A_p1_3 p1.C.length c_p1_3], .blk b3 27 [.slice none 0 0, .slice none 0 0, .slice none 0 0], .blk b157 27 [.slice A152 n153 c154, .slice A234 n235 c236, .slice none 0 0], .mat A152 n153 c154 23 2 vs156 r150, .row A234 n235 c236 2 1 (ints xs233)] := hs.sel [0, 1, 2, 3, 4] (by decide)
                refine wpO_nil ⟨Or.inr (fun _ => hs0), ?_⟩
                refine mRun (i := 5) rfl (by kernel_rfl) ?_
                refine sBuildSlice (parts := [(0, .tmp 80), (1, .tmp 82)]) (vs := [.slice A281 n282 c283, .slice A_p1_3 p1.C.length c_p1_3]) (cells := [.slice A281 n282 c283, .slice A_p1_3 p1.C.length c_p1_3]) hf hs rfl rfl rfl rfl rfl el22 ti23 rfl rfl rfl rfl ?_; clear hf hs; intro a w A285 hs hA286 hf
                have hs : St [] W w [.blk b2 27 [.slice A_p1_1 p1.A.length c_p1_1, .slice A_p1_2 p1.B.length c_p1_2, .slice A_p1_3 p1.C.length c_p1_3], .blk b3 27 [.slice none 0 0, .slice none 0 0, .slice none 0 0], .blk b157 27 [.slice A152 n153 c154, .slice A234 n235 c236, .slice none 0 0], .mat A152 n153 c154 23 2 vs156 r150, .row A234 n235 c236 2 1 (ints xs233), .row A277 1 1 2 1 (ints ([(-1000000000000000)])), .row A281 n282 c283 2 1 (ints r279), .row A285 2 2 23 1 [.slice A281 n282 c283, .slice A_p1_3 p1.C.length c_p1_3]] := hs
                refine wpO_nil ⟨Or.inl (by decide), ?_⟩
                refine mRun (i := 6) rfl (by kernel_rfl) ?_
                obtain ⟨r287, hc288, hm⟩ := bind_some hm
                refine sCall hf rfl rfl rfl rfl (cap := []) rfl rfl en92 (slices_Concat_int64_ok F ([r279, p1.C]) A285 2 2 rfl _ _ hc288 (RdM.two (hs.rd (i := 7) rfl) hn284 (hs.rd (i := 6) rfl) rfl (h_p1_3.at hs))) ?_; clear hf
                rintro _ w ⟨A289, n290, c291, rfl, hn292, hs1⟩ a hf
                have hs : St [] W w [.blk b2 27 [.slice A_p1_1 p1.A.length c_p1_1, .slice A_p1_2 p1.B.length c_p1_2, .slice A_p1_3 p1.C.length c_p1_3], .blk b3 27 [.slice none 0 0, .slice none 0 0, .slice none 0 0], .blk b157 27 [.slice A152 n153 c154, .slice A234 n235 c236, .slice none 0 0], .mat A152 n153 c154 23 2 vs156 r150, .row A234 n235 c236 2 1 (ints xs233), .row A277 1 1 2 1 (ints ([(-1000000000000000)])), .row A281 n282 c283 2 1 (ints r279), .row A285 2 2 23 1 [.slice A281 n282 c283, .slice A_p1_3 p1.C.length c_p1_3], .row A289 n290 c291 2 1 (ints r287)] := hs.join hs1
                clear hs1
                refine wpO_nil ⟨Or.inl (by decide), ?_⟩
                refine mYp (i := 7) rfl (by kernel_rfl) (by kernel_rfl) hf rfl rfl rfl (fun _ => Y_fieldAddr rfl rfl fo27_2) ?_; clear hf; intro a hf
                refine mRun (i := 8) rfl (by kernel_rfl) ?_
                refine sStore (i := 2) (us := [.slice A289 n290 c291]) hf hs rfl rfl rfl rfl rfl rfl ti23 rfl rfl rfl (Nat.le_of_ble_eq_true rfl) rfl ?_; clear hs; intro w hs
                have hs : St [] W w [.blk b2 27 [.slice A_p1_1 p1.A.length c_p1_1, .slice A_p1_2 p1.B.length c_p1_2, .slice A_p1_3 p1.C.length c_p1_3], .blk b3 27 [.slice none 0 0, .slice none 0 0, .slice none 0 0], .blk b157 27 [.slice A152 n153 c154, .slice A234 n235 c236, .slice A289 n290 c291], .mat A152 n153 c154 23 2 vs156 r150, .row A234 n235 c236 2 1 (ints xs233), .row A277 1 1 2 1 (ints ([(-1000000000000000)])), .row A281 n282 c283 2 1 (ints r279), .row A285 2 2 23 1 [.slice A281 n282 c283, .slice A_p1_3 p1.C.length c_p1_3], .row A289 n290 c291 2 1 (ints r287)] := hs
                refine wpO_nil ⟨Or.inl (by decide), ?_⟩
                refine mDone (by kernel_rfl) ?_
                clear hs0
                refine wpL_seq ?_
                refine wpL_region ?_
                refine sY hf hs rfl rfl rfl (Y_load_blkS rfl rfl (i := 2) rfl ag27 ti27 rfl) ?_; clear hf; intro a hf
                obtain ⟨r293, hc294, hm⟩ := bind_some hm
                refine sCall hf rfl rfl rfl rfl (cap := []) rfl rfl en94 (impl_checkedSystem_ok F (GSystem.mk r150 xs233 r287) A152 n153 c154 hn155 A234 n235 c236 hn237 A289 n290 c291 hn292 _ _ hc294 (hs.rdM (i := 3) rfl) (hs.rd (i := 4) rfl) (hs.rd (i := 8) rfl)) ?_; clear hf
                rintro _ w ⟨A295, n296, c297, A300, n301, c302, A305, n306, c307, rfl, hn298, hal299, hn303, hal304, hn308, hal309, hs1⟩ a hf
                have hs : St [] W w [.blk b2 27 [.slice A_p1_1 p1.A.length c_p1_1, .slice A_p1_2 p1.B.length c_p1_2, .slice A_p1_3 p1.C.length c_p1_3], .blk b3 27 [.slice none 0 0, .slice none 0 0, .slice none 0 0], .blk b157 27 [.slice A152 n153 c154, .slice A234 n235 c236, .slice A289 n290 c291], .mat A152 n153 c154 23 2 vs156 r150, .row A234 n235 c236 2 1 (ints xs233), .row A277 1 1 2 1 (ints ([(-1000000000000000)])), .row A281 n282 c283 2 1 (ints r279), .row A285 2 2 23 1 [.slice A281 n282 c283, .slice A_p1_3 p1.C.length c_p1_3], .row A289 n290 c291 2 1 (ints r287)] := hs.ext hs1.below
                clear hs1
                obtain ⟨vs310, hs⟩ := hs.aliasM (i := 3) rfl hal299
                have hs : St [] W w [.blk b2 27 [.slice A_p1_1 p1.A.length c_p1_1, .slice A_p1_2 p1.B.length c_p1_2, .slice A_p1_3 p1.C.length c_p1_3], .blk b3 27 [.slice none 0 0, .slice none 0 0, .slice none 0 0], .blk b157 27 [.slice A152 n153 c154, .slice A234 n235 c236, .slice A289 n290 c291], .mat A295 n296 c297 23 2 vs310 r293.1.A, .row A234 n235 c236 2 1 (ints xs233), .row A277 1 1 2 1 (ints ([(-1000000000000000)])), .row A281 n282 c283 2 1 (ints r279), .row A285 2 2 23 1 [.slice A281 n282 c283, .slice A_p1_3 p1.C.length c_p1_3], .row A289 n290 c291 2 1 (ints r287)] := hs
                have hs : St [] W w [.blk b2 27 [.slice A_p1_1 p1.A.length c_p1_1, .slice A_p1_2 p1.B.length c_p1_2, .slice A_p1_3 p1.C.length c_p1_3], .blk b3 27 [.slice none 0 0, .slice none 0 0, .slice none 0 0], .blk b157 27 [.slice A152 n153 c154, .slice A234 n235 c236, .slice A289 n290 c291], .mat A295 n296 c297 23 2 vs310 r293.1.A, .row A300 n301 c302 2 1 (ints r293.1.B), .row A277 1 1 2 1 (ints ([(-1000000000000000)])), .row A281 n282 c283 2 1 (ints r279), .row A285 2 2 23 1 [.slice A281 n282 c283, .slice A_p1_3 p1.C.length c_p1_3], .row A289 n290 c291 2 1 (ints r287)] := hs.alias (i := 4) (enc := ints) rfl rfl hal304
                have hs : St [] W w [.blk b2 27 [.slice A_p1_1 p1.A.length c_p1_1, .slice A_p1_2 p1.B.length c_p1_2, .slice A_p1_3 p1.C.length c_p1_3], .blk b3 27 [.slice none 0 0, .slice none 0 0, .slice none 0 0], .blk b157 27 [.slice A152 n153 c154, .slice A234 n235 c236, .slice A289 n290 c291], .mat A295 n296 c297 23 2 vs310 r293.1.A, .row A300 n301 c302 2 1 (ints r293.1.B), .row A277 1 1 2 1 (ints ([(-1000000000000000)])), .row A281 n282 c283 2 1 (ints r279), .row A285 2 2 23 1 [.slice A281 n282 c283, .slice A_p1_3 p1.C.length c_p1_3], .row A305 n306 c307 2 1 (ints r293.1.C)] := hs.alias (i := 8) (enc := ints) rfl rfl hal309
                refine sY hf hs rfl rfl rfl (Y_extract rfl rfl rfl) ?_; clear hf; intro a hf
                refine sY hf hs rfl rfl rfl (Y_extract rfl rfl rfl) ?_; clear hf; intro a hf
                refine sStore (i := 1) (us := [.slice A295 n296 c297, .slice A300 n301 c302, .slice A305 n306 c307]) hf hs rfl rfl rfl rfl rfl rfl ti27 rfl rfl rfl (Nat.le_of_ble_eq_true rfl) rfl ?_; clear hs; intro w hs
                have hs : St [] W w [.blk b2 27 [.slice A_p1_1 p1.A.length c_p1_1, .slice A_p1_2 p1.B.length c_p1_2, .slice A_p1_3 p1.C.length c_p1_3], .blk b3 27 [.slice A295 n296 c297, .slice A300 n301 c302, .slice A305 n306 c307], .blk b157 27 [.slice A152 n153 c154, .slice A234 n235 c236, .slice A289 n290 c291], .mat A295 n296 c297 23 2 vs310 r293.1.A, .row A300 n301 c302 2 1 (ints r293.1.B), .row A277 1 1 2 1 (ints ([(-1000000000000000)])), .row A281 n282 c283 2 1 (ints r279), .row A285 2 2 23 1 [.slice A281 n282 c283, .slice A_p1_3 p1.C.length c_p1_3], .row A305 n306 c307 2 1 (ints r293.1.C)] := hs
                refine sY hf hs rfl rfl rfl (Y_assign rfl rfl) ?_; clear hf; intro a hf
                refine wpO_nil ?_
                obtain rfl := Option.some.inj hm
                refine wpL_ret (ret_cell_tmp rfl hf rfl rfl hs (i := 1) rfl ag27 ti27 rfl ?_)
                exact ⟨_, rfl, A295, n296, c297, vs310, A300, n301, c302, A305, n306, c307, rfl, hn298, hn303, hn308, hs.sel [3, 4, 8] (by decide)⟩

set_option maxRecDepth 100000 in
theorem spec_l01In_ok (F : Nat) (p0_n : Int) (p1_low : Int) (p2_high : Int) (r : Bool) (W : World) (hm : spec_l01In F p0_n p1_low p2_high = some r) :
    Calls Try.prog 115 [.int .i64 p0_n, .int .i64 p1_low, .int .i64 p2_high].toArray W fun e w' => ∃ v, e = .returned v ∧ v = .bool r ∧ St [] W w' [] := by
  unfold spec_l01In at hm
  refine Calls.enter (N := 15) Try.func115 rfl rfl rfl (fun a hf => ?_)
  have hs := St.start W
  obtain ⟨w, hw_⟩ : ∃ w, w = W := ⟨W, rfl⟩
  clear hw_ w
  refine wpL_seq ?_
  refine wpL_region ?_
  refine sY hf hs rfl rfl rfl (Y_assign rfl rfl) ?_; clear hf; intro a hf
  refine wpO_nil ?_
  refine wpL_seq ?_
  obtain ⟨r3, hj4, hm⟩ := bind_some hm
  refine wpL_cut (fun a w => ∃ b2 : Bool, b2 = r3 ∧ Fr a 15 [(6, .bool b2)] ∧ St [] W w []) ?_ ?_
  · refine wpL_region ?_
    refine sY hf hs rfl rfl rfl (Y_move rfl rfl) ?_; clear hf; intro a hf
    refine sY hf hs rfl rfl rfl (Y_move rfl rfl) ?_; clear hf; intro a hf
    refine sY hf hs rfl rfl rfl (Y_geq rfl rfl rfl) ?_; clear hf; intro a hf
    refine sY hf hs rfl rfl rfl (Y_move rfl rfl) ?_; clear hf; intro a hf
    refine bsplit (decide (p1_low ≤ p0_n)) (fun hb5 => ?_) (fun hb5 => ?_)
    · have hj4 := bif_t hj4 hb5
      refine sYg hf hs rfl rfl rfl (congrArg (fun b => some (Value.bool b)) hb5) rfl rfl rfl (Y_move rfl rfl) ?_; clear hf; intro a hf
      refine sYg hf hs rfl rfl rfl (congrArg (fun b => some (Value.bool b)) hb5) rfl rfl rfl (Y_move rfl rfl) ?_; clear hf; intro a hf
      refine sYg hf hs rfl rfl rfl (congrArg (fun b => some (Value.bool b)) hb5) rfl rfl rfl (Y_leq rfl rfl rfl) ?_; clear hf; intro a hf
      refine sY hf hs rfl rfl rfl (Y_pickT rfl (congrArg (fun b => some (Value.bool b)) hb5) rfl) ?_; clear hf; intro a hf
      refine sY hf hs rfl rfl rfl (Y_assign rfl rfl) ?_; clear hf; intro a hf
      refine wpO_nil ?_
      refine wpL_nil (then_normal ?_)
      exact ⟨(decide (p0_n ≤ p2_high)), Option.some.inj hj4, (FrD.pick hf.none hf rfl), hs⟩
    · have hj4 := bif_f hj4 hb5
      refine sNo hf rfl rfl rfl (congrArg (fun b => some (Value.bool b)) hb5) rfl rfl rfl ?_; clear hf; intro a hf
      refine sNo hf rfl rfl rfl (congrArg (fun b => some (Value.bool b)) hb5) rfl rfl rfl ?_; clear hf; intro a hf
      refine sNo hf rfl rfl rfl (congrArg (fun b => some (Value.bool b)) hb5) rfl rfl rfl ?_; clear hf; intro a hf
      refine sY hf hs rfl rfl rfl (Y_pickF rfl (congrArg (fun b => some (Value.bool b)) hb5) rfl) ?_; clear hf; intro a hf
      refine sY hf hs rfl rfl rfl (Y_assign rfl rfl) ?_; clear hf; intro a hf
      refine wpO_nil ?_
      refine wpL_nil (then_normal ?_)
      exact ⟨false, Option.some.inj hj4, (FrD.pick hf.none hf rfl), hs⟩
  · rintro a w ⟨b2, hr_, hf, hs⟩
    subst hr_
    try dsimp only at hm
    obtain rfl := Option.some.inj hm
    refine wpL_ret (ret_tmp rfl hf rfl ?_)
    exact ⟨_, rfl, rfl, hs⟩

set_option maxRecDepth 100000 in
theorem spec_l01Finite_ok (F : Nat) (p0_a : Int) (r : Bool) (W : World) (hm : spec_l01Finite F p0_a = some r) :
    Calls Try.prog 156 [.int .i64 p0_a].toArray W fun e w' => ∃ v, e = .returned v ∧ v = .bool r ∧ St [] W w' [] := by
  unfold spec_l01Finite at hm
  refine Calls.enter (N := 5) Try.func156 rfl rfl rfl (fun a hf => ?_)
  have hs := St.start W
  obtain ⟨w, hw_⟩ : ∃ w, w = W := ⟨W, rfl⟩
  clear hw_ w
  refine wpL_seq ?_
  refine wpL_region ?_
  refine sY hf hs rfl rfl rfl (Y_assign rfl rfl) ?_; clear hf; intro a hf
  refine wpO_nil ?_
  refine wpL_seq ?_
  refine wpL_region ?_
  refine sY hf hs rfl rfl rfl (Y_move rfl rfl) ?_; clear hf; intro a hf
  obtain ⟨r1, hc2, hm⟩ := bind_some hm
  refine sCall hf rfl rfl rfl rfl (cap := []) rfl rfl en115 (spec_l01In_ok F p0_a (-1000000) 1000000 _ _ hc2) ?_; clear hf
  rintro _ w ⟨rfl, hs1⟩ a hf
  have hs : St [] W w [] := hs.ext hs1.below
  clear hs1
  refine sY hf hs rfl rfl rfl (Y_assign rfl rfl) ?_; clear hf; intro a hf
  refine wpO_nil ?_
  obtain rfl := Option.some.inj hm
  refine wpL_ret (ret_tmp rfl hf rfl ?_)
  exact ⟨_, rfl, rfl, hs⟩

set_option maxRecDepth 100000 in
theorem spec_IsValue_ok (F : Nat) (p0_a : Int) (r : Bool) (W : World) (hm : spec_IsValue F p0_a = some r) :
    Calls Try.prog 77 [.int .i64 p0_a].toArray W fun e w' => ∃ v, e = .returned v ∧ v = .bool r ∧ St [] W w' [] := by
  unfold spec_IsValue at hm
  refine Calls.enter (N := 9) Try.func77 rfl rfl rfl (fun a hf => ?_)
  have hs := St.start W
  obtain ⟨w, hw_⟩ : ∃ w, w = W := ⟨W, rfl⟩
  clear hw_ w
  refine wpL_seq ?_
  refine wpL_region ?_
  refine sY hf hs rfl rfl rfl (Y_assign rfl rfl) ?_; clear hf; intro a hf
  refine wpO_nil ?_
  refine wpL_seq ?_
  obtain ⟨r5, hj6, hm⟩ := bind_some hm
  refine wpL_cut (fun a w => ∃ b4 : Bool, b4 = r5 ∧ Fr a 9 [(2, .bool b4)] ∧ St [] W w []) ?_ ?_
  · refine wpL_region ?_
    refine sY hf hs rfl rfl rfl (Y_move rfl rfl) ?_; clear hf; intro a hf
    refine sY hf hs rfl rfl rfl (Y_eql rfl rfl rfl) ?_; clear hf; intro a hf
    refine sY hf hs rfl rfl rfl (Y_move rfl rfl) ?_; clear hf; intro a hf
    refine bsplit (p0_a == (-1000000000000000)) (fun hb7 => ?_) (fun hb7 => ?_)
    · have hj6 := bif_t hj6 hb7
      refine sNo hf rfl rfl rfl (congrArg (fun b => some (Value.bool b)) hb7) rfl rfl rfl ?_; clear hf; intro a hf
      refine sNo hf rfl rfl rfl (congrArg (fun b => some (Value.bool b)) hb7) rfl rfl rfl ?_; clear hf; intro a hf
      refine sY hf hs rfl rfl rfl (Y_pickT rfl (congrArg (fun b => some (Value.bool b)) hb7) rfl) ?_; clear hf; intro a hf
      refine sY hf hs rfl rfl rfl (Y_assign rfl rfl) ?_; clear hf; intro a hf
      refine wpO_nil ?_
      refine wpL_nil (then_normal ?_)
      exact ⟨true, Option.some.inj hj6, (FrD.pick hf.none hf rfl), hs⟩
    · have hj6 := bif_f hj6 hb7
      refine sYg hf hs rfl rfl rfl (congrArg (fun b => some (Value.bool b)) hb7) rfl rfl rfl (Y_move rfl rfl) ?_; clear hf; intro a hf
      obtain ⟨r8, hc9, hj6⟩ := bind_some hj6
      refine sCallg hf rfl rfl rfl (congrArg (fun b => some (Value.bool b)) hb7) rfl rfl rfl rfl (cap := []) rfl rfl en156 (spec_l01Finite_ok F p0_a _ _ hc9) ?_; clear hf
      rintro _ w ⟨rfl, hs1⟩ a hf
      have hs : St [] W w [] := hs.ext hs1.below
      clear hs1
      refine sY hf hs rfl rfl rfl (Y_pickF rfl (congrArg (fun b => some (Value.bool b)) hb7) rfl) ?_; clear hf; intro a hf
      refine sY hf hs rfl rfl rfl (Y_assign rfl rfl) ?_; clear hf; intro a hf
      refine wpO_nil ?_
      refine wpL_nil (then_normal ?_)
      exact ⟨r8, Option.some.inj hj6, (FrD.pick hf.none hf rfl), hs⟩
  · rintro a w ⟨b4, hr_, hf, hs⟩
    subst hr_
    try dsimp only at hm
    obtain rfl := Option.some.inj hm
    refine wpL_ret (ret_tmp rfl hf rfl ?_)
    exact ⟨_, rfl, rfl, hs⟩

set_option maxRecDepth 100000 in
theorem spec_l01All_ok (F : Nat) (p0_list : List Int) (A_p0_list_1 : Option Addr) (n_p0_list_1 c_p0_list_1 : Nat) (hn_p0_list_1 : n_p0_list_1 = p0_list.length) (p1_finite : Bool) (r : Bool) (W : World) (hm : spec_l01All F p0_list p1_finite = some r) (h_p0_list_1 : Rd W A_p0_list_1 (ints p0_list)) :
    Calls Try.prog 124 [.slice A_p0_list_1 n_p0_list_1 c_p0_list_1, .bool p1_finite].toArray W fun e w' => ∃ v, e = .returned v ∧ v = .bool r ∧ St [] W w' [] := by
  subst hn_p0_list_1
  unfold spec_l01All at hm
  refine Calls.enter (N := 28) Try.func124 rfl rfl rfl (fun a hf => ?_)
  have hs := St.start W
  obtain ⟨w, hw_⟩ : ∃ w, w = W := ⟨W, rfl⟩
  clear hw_ w
  refine wpL_seq ?_
  refine wpL_region ?_
  refine sY hf hs rfl rfl rfl (Y_assign rfl rfl) ?_; clear hf; intro a hf
  refine wpO_nil ?_
  refine wpL_seq ?_
  refine wpL_seq ?_
  refine wpL_region ?_
  refine sY hf hs rfl rfl rfl (Y_assign rfl rfl) ?_; clear hf; intro a hf
  refine wpO_nil ?_
  obtain ⟨r66, hl67, hm⟩ := bind_some hm
  refine wpL_block (fun a w => Sum.inr () = r66 ∧ Fr a 28 [] ∧ St [] W w []) ?_ ?_
  · refine wpL_loop (fun n a w => ∃ x44 : Int, spec_l01All_L1 F p0_list p1_finite n x44 = some r66 ∧ Fr a 28 [(0, .slice A_p0_list_1 p0_list.length c_p0_list_1), (1, .bool p1_finite), (5, .int .i64 x44)] ∧ St [] W w []) F ?_ ?_ ?_
    · exact ⟨0, hl67, (FrD.pick (FrD.pick (FrD.pick hf.none hf rfl) hf rfl) hf rfl), hs⟩
    · rintro a w ⟨x44, h0_, -, -⟩; simp [spec_l01All_L1] at h0_
    · rintro n69 a w ⟨x44, hm68, hf, hs⟩
      rw [spec_l01All_L1] at hm68
      refine wpL_seq ?_
      refine wpL_seq ?_
      refine wpL_region ?_
      refine sY hf hs rfl rfl rfl (Y_move rfl rfl) ?_; clear hf; intro a hf
      refine sY hf hs rfl rfl rfl (Y_move rfl rfl) ?_; clear hf; intro a hf
      refine sY hf hs rfl rfl rfl (Y_lenH rfl rfl el23 rfl) ?_; clear hf; intro a hf
      refine sY hf hs rfl rfl rfl (Y_lss rfl rfl rfl) ?_; clear hf; intro a hf
      refine wpO_nil ?_
      refine wpL_cond hf rfl (fun hb70 => ?_) (fun hb70 => ?_)
      · have hm68 := bif_t hm68 hb70
        refine wpL_skip ?_
        refine wpL_seq ?_
        refine wpL_block0 ?_
        refine wpL_seq ?_
        obtain ⟨r80, hj81, hm68⟩ := bind_some hm68
        refine wpL_cut (fun a w => ∃ b79 : Bool, b79 = r80 ∧ Fr a 28 [(0, .slice A_p0_list_1 p0_list.length c_p0_list_1), (1, .bool p1_finite), (5, .int .i64 x44), (27, .bool b79)] ∧ St [] W w []) ?_ ?_
        · refine wpL_region ?_
          refine sY hf hs rfl rfl rfl (Y_move rfl rfl) ?_; clear hf; intro a hf
          refine sY hf hs rfl rfl rfl (Y_move rfl rfl) ?_; clear hf; intro a hf
          obtain ⟨q82, hi83, hj81⟩ := bind_some hj81
          obtain ⟨hi83a, hi83b, hi83q⟩ := idx_some hi83
          refine sY hf hs rfl rfl rfl (Y_index rfl rfl rfl el23 ti2 (Rd.isAt (h_p0_list_1.at hs) (at1 (ints_at hi83q))) hi83a hi83b) ?_; clear hf; intro a hf
          refine sY hf hs rfl rfl rfl (Y_load_rd rfl rfl (fun w hs => h_p0_list_1.at hs) (at1 (ints_at hi83q)) ag2) ?_; clear hf; intro a hf
          obtain ⟨r84, hc85, hj81⟩ := bind_some hj81
          refine sCall hf rfl rfl rfl rfl (cap := []) rfl rfl en77 (spec_IsValue_ok F q82 _ _ hc85) ?_; clear hf
          rintro _ w ⟨rfl, hs1⟩ a hf
          have hs : St [] W w [] := hs.ext hs1.below
          clear hs1
          refine sY hf hs rfl rfl rfl (Y_not rfl rfl) ?_; clear hf; intro a hf
          refine sY hf hs rfl rfl rfl (Y_move rfl rfl) ?_; clear hf; intro a hf
          refine bsplit (!r84) (fun hb86 => ?_) (fun hb86 => ?_)
          · have hj81 := bif_t hj81 hb86
            refine sNo hf rfl rfl rfl (congrArg (fun b => some (Value.bool b)) hb86) rfl rfl rfl ?_; clear hf; intro a hf
            refine sNo hf rfl rfl rfl (congrArg (fun b => some (Value.bool b)) hb86) rfl rfl rfl ?_; clear hf; intro a hf
            refine sNoU hf rfl rfl rfl rfl rfl rfl rfl ?_; clear hf; intro a hf
            refine sNoU hf rfl rfl rfl rfl rfl rfl rfl ?_; clear hf; intro a hf
            refine sNoU hf rfl rfl rfl rfl rfl rfl rfl ?_; clear hf; intro a hf
            refine sNoU hf rfl rfl rfl rfl rfl rfl rfl ?_; clear hf; intro a hf
            refine sNoU hf rfl rfl rfl rfl rfl rfl rfl ?_; clear hf; intro a hf
            refine sNo hf rfl rfl rfl (congrArg (fun b => some (Value.bool b)) hb86) rfl rfl rfl ?_; clear hf; intro a hf
            refine sY hf hs rfl rfl rfl (Y_pickT rfl (congrArg (fun b => some (Value.bool b)) hb86) rfl) ?_; clear hf; intro a hf
            refine wpO_nil ?_
            refine wpL_nil (then_normal ?_)
            exact ⟨true, Option.some.inj hj81, (FrD.pick (FrD.pick (FrD.pick (FrD.pick hf.none hf rfl) hf rfl) hf rfl) hf rfl), hs⟩
          · have hj81 := bif_f hj81 hb86
            refine sYg hf hs rfl rfl rfl (congrArg (fun b => some (Value.bool b)) hb86) rfl rfl rfl (Y_move rfl rfl) ?_; clear hf; intro a hf
            refine sYg hf hs rfl rfl rfl (congrArg (fun b => some (Value.bool b)) hb86) rfl rfl rfl (Y_move rfl rfl) ?_; clear hf; intro a hf
            refine bsplit p1_finite (fun hb87 => ?_) (fun hb87 => ?_)
            · have hj81 := bif_t hj81 hb87
              refine sYg hf hs rfl rfl rfl (congrArg (fun b => some (Value.bool b)) hb87) rfl rfl rfl (Y_move rfl rfl) ?_; clear hf; intro a hf
              refine sYg hf hs rfl rfl rfl (congrArg (fun b => some (Value.bool b)) hb87) rfl rfl rfl (Y_move rfl rfl) ?_; clear hf; intro a hf
              obtain ⟨q88, hi89, hj81⟩ := bind_some hj81
              obtain ⟨hi89a, hi89b, hi89q⟩ := idx_some hi89
              refine sYg hf hs rfl rfl rfl (congrArg (fun b => some (Value.bool b)) hb87) rfl rfl rfl (Y_index rfl rfl rfl el23 ti2 (Rd.isAt (h_p0_list_1.at hs) (at1 (ints_at hi89q))) hi89a hi89b) ?_; clear hf; intro a hf
              refine sYg hf hs rfl rfl rfl (congrArg (fun b => some (Value.bool b)) hb87) rfl rfl rfl (Y_load_rd rfl rfl (fun w hs => h_p0_list_1.at hs) (at1 (ints_at hi89q)) ag2) ?_; clear hf; intro a hf
              refine sYg hf hs rfl rfl rfl (congrArg (fun b => some (Value.bool b)) hb87) rfl rfl rfl (Y_eql rfl rfl rfl) ?_; clear hf; intro a hf
              refine sYg hf hs rfl rfl rfl (congrArg (fun b => some (Value.bool b)) hb86) rfl rfl rfl (Y_pickT rfl (congrArg (fun b => some (Value.bool b)) hb87) rfl) ?_; clear hf; intro a hf
              refine sY hf hs rfl rfl rfl (Y_pickF rfl (congrArg (fun b => some (Value.bool b)) hb86) rfl) ?_; clear hf; intro a hf
              refine wpO_nil ?_
              refine wpL_nil (then_normal ?_)
              exact ⟨(q88 == (-1000000000000000)), Option.some.inj hj81, (FrD.pick (FrD.pick (FrD.pick (FrD.pick hf.none hf rfl) hf rfl) hf rfl) hf rfl), hs⟩
            · have hj81 := bif_f hj81 hb87
              refine sNo hf rfl rfl rfl (congrArg (fun b => some (Value.bool b)) hb87) rfl rfl rfl ?_; clear hf; intro a hf
              refine sNo hf rfl rfl rfl (congrArg (fun b => some (Value.bool b)) hb87) rfl rfl rfl ?_; clear hf; intro a hf
              refine sNo hf rfl rfl rfl (congrArg (fun b => some (Value.bool b)) hb87) rfl rfl rfl ?_; clear hf; intro a hf
              refine sNo hf rfl rfl rfl (congrArg (fun b => some (Value.bool b)) hb87) rfl rfl rfl ?_; clear hf; intro a hf
              refine sNo hf rfl rfl rfl (congrArg (fun b => some (Value.bool b)) hb87) rfl rfl rfl ?_; clear hf; intro a hf
              refine sYg hf hs rfl rfl rfl (congrArg (fun b => some (Value.bool b)) hb86) rfl rfl rfl (Y_pickF rfl (congrArg (fun b => some (Value.bool b)) hb87) rfl) ?_; clear hf; intro a hf
              refine sY hf hs rfl rfl rfl (Y_pickF rfl (congrArg (fun b => some (Value.bool b)) hb86) rfl) ?_; clear hf; intro a hf
              refine wpO_nil ?_
              refine wpL_nil (then_normal ?_)
              exact ⟨false, Option.some.inj hj81, (FrD.pick (FrD.pick (FrD.pick (FrD.pick hf.none hf rfl) hf rfl) hf rfl) hf rfl), hs⟩
        · rintro a w ⟨b79, hr_, hf, hs⟩
          subst hr_
          try dsimp only at hm68
          refine wpL_cond hf rfl (fun hb90 => ?_) (fun hb90 => ?_)
          · have hm68 := bif_t hm68 hb90
            refine wpL_seq ?_
            refine wpL_region ?_
            refine sY hf hs rfl rfl rfl (Y_assign rfl rfl) ?_; clear hf; intro a hf
            refine wpO_nil ?_
            obtain rfl := Option.some.inj hm68
            try dsimp only at hm
            obtain rfl := Option.some.inj hm
            refine wpL_ret (Qb_ret (Ql_ret (Qb_ret (ret_tmp rfl hf rfl ?_))))
            exact ⟨_, rfl, rfl, hs⟩
          · have hm68 := bif_f hm68 hb90
            refine wpL_skip ?_
            refine wpL_nil (Qb_normal ?_)
            refine wpL_region ?_
            refine sY hf hs rfl rfl rfl (Y_move rfl rfl) ?_; clear hf; intro a hf
            refine sY hf hs rfl rfl rfl (Y_add rfl rfl rfl) ?_; clear hf; intro a hf
            refine sY hf hs rfl rfl rfl (Y_assign rfl rfl) ?_; clear hf; intro a hf
            refine wpO_nil ?_
            refine wpL_nil (Ql_normal ?_)
            exact ⟨(IntKind.i64.wrap (x44 + 1)), hm68, (FrD.pick (FrD.pick (FrD.pick hf.none hf rfl) hf rfl) hf rfl), hs⟩
      · have hm68 := bif_f hm68 hb70
        refine wpL_exit (Ql_exit (Qb_exit ?_))
        exact ⟨Option.some.inj hm68, hf.none, hs⟩
  · rintro a w ⟨hr_, hf, hs⟩
    subst hr_
    try dsimp only at hm
    refine wpL_seq ?_
    refine wpL_region ?_
    refine sY hf hs rfl rfl rfl (Y_assign rfl rfl) ?_; clear hf; intro a hf
    refine wpO_nil ?_
    obtain rfl := Option.some.inj hm
    refine wpL_ret (ret_tmp rfl hf rfl ?_)
    exact ⟨_, rfl, rfl, hs⟩

set_option maxRecDepth 100000 in
theorem spec_l02Vector_ok (F : Nat) (p0_x : List Int) (A_p0_x_1 : Option Addr) (n_p0_x_1 c_p0_x_1 : Nat) (hn_p0_x_1 : n_p0_x_1 = p0_x.length) (r : Bool) (W : World) (hm : spec_l02Vector F p0_x = some r) (h_p0_x_1 : Rd W A_p0_x_1 (ints p0_x)) :
    Calls Try.prog 120 [.slice A_p0_x_1 n_p0_x_1 c_p0_x_1].toArray W fun e w' => ∃ v, e = .returned v ∧ v = .bool r ∧ St [] W w' [] := by
  subst hn_p0_x_1
  unfold spec_l02Vector at hm
  refine Calls.enter (N := 10) Try.func120 rfl rfl rfl (fun a hf => ?_)
  have hs := St.start W
  obtain ⟨w, hw_⟩ : ∃ w, w = W := ⟨W, rfl⟩
  clear hw_ w
  refine wpL_seq ?_
  refine wpL_region ?_
  refine sY hf hs rfl rfl rfl (Y_assign rfl rfl) ?_; clear hf; intro a hf
  refine wpO_nil ?_
  refine wpL_seq ?_
  obtain ⟨r7, hj8, hm⟩ := bind_some hm
  refine wpL_cut (fun a w => ∃ b6 : Bool, b6 = r7 ∧ Fr a 10 [(2, .bool b6)] ∧ St [] W w []) ?_ ?_
  · refine wpL_region ?_
    refine sY hf hs rfl rfl rfl (Y_move rfl rfl) ?_; clear hf; intro a hf
    refine sY hf hs rfl rfl rfl (Y_lenH rfl rfl el23 rfl) ?_; clear hf; intro a hf
    obtain ⟨r9, hc10, hj8⟩ := bind_some hj8
    refine sCall hf rfl rfl rfl rfl (cap := []) rfl rfl en115 (spec_l01In_ok F (p0_x.length : Int) 1 10 _ _ hc10) ?_; clear hf
    rintro _ w ⟨rfl, hs1⟩ a hf
    have hs : St [] W w [] := hs.ext hs1.below
    clear hs1
    refine sY hf hs rfl rfl rfl (Y_move rfl rfl) ?_; clear hf; intro a hf
    refine bsplit r9 (fun hb11 => ?_) (fun hb11 => ?_)
    · have hj8 := bif_t hj8 hb11
      refine sYg hf hs rfl rfl rfl (congrArg (fun b => some (Value.bool b)) hb11) rfl rfl rfl (Y_move rfl rfl) ?_; clear hf; intro a hf
      obtain ⟨r12, hc13, hj8⟩ := bind_some hj8
      refine sCallg hf rfl rfl rfl (congrArg (fun b => some (Value.bool b)) hb11) rfl rfl rfl rfl (cap := []) rfl rfl en124 (spec_l01All_ok F p0_x A_p0_x_1 p0_x.length c_p0_x_1 rfl false _ _ hc13 (h_p0_x_1.at hs)) ?_; clear hf
      rintro _ w ⟨rfl, hs1⟩ a hf
      have hs : St [] W w [] := hs.ext hs1.below
      clear hs1
      refine sY hf hs rfl rfl rfl (Y_pickT rfl (congrArg (fun b => some (Value.bool b)) hb11) rfl) ?_; clear hf; intro a hf
      refine sY hf hs rfl rfl rfl (Y_assign rfl rfl) ?_; clear hf; intro a hf
      refine wpO_nil ?_
      refine wpL_nil (then_normal ?_)
      exact ⟨r12, Option.some.inj hj8, (FrD.pick hf.none hf rfl), hs⟩
    · have hj8 := bif_f hj8 hb11
      refine sNo hf rfl rfl rfl (congrArg (fun b => some (Value.bool b)) hb11) rfl rfl rfl ?_; clear hf; intro a hf
      refine sNo hf rfl rfl rfl (congrArg (fun b => some (Value.bool b)) hb11) rfl rfl rfl ?_; clear hf; intro a hf
      refine sY hf hs rfl rfl rfl (Y_pickF rfl (congrArg (fun b => some (Value.bool b)) hb11) rfl) ?_; clear hf; intro a hf
      refine sY hf hs rfl rfl rfl (Y_assign rfl rfl) ?_; clear hf; intro a hf
      refine wpO_nil ?_
      refine wpL_nil (then_normal ?_)
      exact ⟨false, Option.some.inj hj8, (FrD.pick hf.none hf rfl), hs⟩
  · rintro a w ⟨b6, hr_, hf, hs⟩
    subst hr_
    try dsimp only at hm
    obtain rfl := Option.some.inj hm
    refine wpL_ret (ret_tmp rfl hf rfl ?_)
    exact ⟨_, rfl, rfl, hs⟩

set_option maxRecDepth 100000 in
theorem spec_IsMatrix_ok (F : Nat) (p0_a : List (List Int)) (A_p0_a_1 : Option Addr) (n_p0_a_1 c_p0_a_1 : Nat) (hn_p0_a_1 : n_p0_a_1 = p0_a.length) (r : Bool) (W : World) (hm : spec_IsMatrix F p0_a = some r) (h_p0_a_1 : RdM W A_p0_a_1 p0_a) :
    Calls Try.prog 76 [.slice A_p0_a_1 n_p0_a_1 c_p0_a_1].toArray W fun e w' => ∃ v, e = .returned v ∧ v = .bool r ∧ St [] W w' [] := by
  subst hn_p0_a_1
  unfold spec_IsMatrix at hm
  refine Calls.enter (N := 36) Try.func76 rfl rfl rfl (fun a hf => ?_)
  have hs := St.start W
  obtain ⟨w, hw_⟩ : ∃ w, w = W := ⟨W, rfl⟩
  clear hw_ w
  refine wpL_seq ?_
  refine wpL_region ?_
  refine sY hf hs rfl rfl rfl (Y_assign rfl rfl) ?_; clear hf; intro a hf
  refine wpO_nil ?_
  refine wpL_seq ?_
  refine wpL_seq ?_
  obtain ⟨r3, hj4, hm⟩ := bind_some hm
  refine wpL_cut (fun a w => ∃ b2 : Bool, b2 = r3 ∧ Fr a 36 [(0, .slice A_p0_a_1 p0_a.length c_p0_a_1), (11, .bool b2)] ∧ St [] W w []) ?_ ?_
  · refine wpL_region ?_
    refine sY hf hs rfl rfl rfl (Y_move rfl rfl) ?_; clear hf; intro a hf
    refine sY hf hs rfl rfl rfl (Y_lenH rfl rfl el22 rfl) ?_; clear hf; intro a hf
    refine sY hf hs rfl rfl rfl (Y_lss rfl rfl rfl) ?_; clear hf; intro a hf
    refine sY hf hs rfl rfl rfl (Y_move rfl rfl) ?_; clear hf; intro a hf
    refine bsplit (decide ((p0_a.length : Int) < 1)) (fun hb5 => ?_) (fun hb5 => ?_)
    · have hj4 := bif_t hj4 hb5
      refine sNo hf rfl rfl rfl (congrArg (fun b => some (Value.bool b)) hb5) rfl rfl rfl ?_; clear hf; intro a hf
      refine sNo hf rfl rfl rfl (congrArg (fun b => some (Value.bool b)) hb5) rfl rfl rfl ?_; clear hf; intro a hf
      refine sNo hf rfl rfl rfl (congrArg (fun b => some (Value.bool b)) hb5) rfl rfl rfl ?_; clear hf; intro a hf
      refine sY hf hs rfl rfl rfl (Y_pickT rfl (congrArg (fun b => some (Value.bool b)) hb5) rfl) ?_; clear hf; intro a hf
      refine wpO_nil ?_
      refine wpL_nil (then_normal ?_)
      exact ⟨true, Option.some.inj hj4, (FrD.pick (FrD.pick hf.none hf rfl) hf rfl), hs⟩
    · have hj4 := bif_f hj4 hb5
      refine sYg hf hs rfl rfl rfl (congrArg (fun b => some (Value.bool b)) hb5) rfl rfl rfl (Y_move rfl rfl) ?_; clear hf; intro a hf
      refine sYg hf hs rfl rfl rfl (congrArg (fun b => some (Value.bool b)) hb5) rfl rfl rfl (Y_lenH rfl rfl el22 rfl) ?_; clear hf; intro a hf
      refine sYg hf hs rfl rfl rfl (congrArg (fun b => some (Value.bool b)) hb5) rfl rfl rfl (Y_gtr rfl rfl rfl) ?_; clear hf; intro a hf
      refine sY hf hs rfl rfl rfl (Y_pickF rfl (congrArg (fun b => some (Value.bool b)) hb5) rfl) ?_; clear hf; intro a hf
      refine wpO_nil ?_
      refine wpL_nil (then_normal ?_)
      exact ⟨(decide (10 < (p0_a.length : Int))), Option.some.inj hj4, (FrD.pick (FrD.pick hf.none hf rfl) hf rfl), hs⟩
  · rintro a w ⟨b2, hr_, hf, hs⟩
    subst hr_
    try dsimp only at hm
    refine wpL_cond hf rfl (fun hb6 => ?_) (fun hb6 => ?_)
    · have hm := bif_t hm hb6
      refine wpL_seq ?_
      refine wpL_region ?_
      refine sY hf hs rfl rfl rfl (Y_assign rfl rfl) ?_; clear hf; intro a hf
      refine wpO_nil ?_
      obtain rfl := Option.some.inj hm
      refine wpL_ret (ret_tmp rfl hf rfl ?_)
      exact ⟨_, rfl, rfl, hs⟩
    · have hm := bif_f hm hb6
      refine wpL_skip ?_
      refine wpL_seq ?_
      refine wpL_seq ?_
      refine wpL_region ?_
      refine sY hf hs rfl rfl rfl (Y_assign rfl rfl) ?_; clear hf; intro a hf
      refine wpO_nil ?_
      obtain ⟨r204, hl205, hm⟩ := bind_some hm
      refine wpL_block (fun a w => Sum.inr () = r204 ∧ Fr a 36 [] ∧ St [] W w []) ?_ ?_
      · refine wpL_loop (fun n a w => ∃ x138 : Int, spec_IsMatrix_L1 F p0_a n x138 = some r204 ∧ Fr a 36 [(0, .slice A_p0_a_1 p0_a.length c_p0_a_1), (3, .int .i64 x138)] ∧ St [] W w []) F ?_ ?_ ?_
        · exact ⟨0, hl205, (FrD.pick (FrD.pick hf.none hf rfl) hf rfl), hs⟩
        · rintro a w ⟨x138, h0_, -, -⟩; simp [spec_IsMatrix_L1] at h0_
        · rintro n207 a w ⟨x138, hm206, hf, hs⟩
          rw [spec_IsMatrix_L1] at hm206
          refine wpL_seq ?_
          refine wpL_seq ?_
          refine wpL_region ?_
          refine sY hf hs rfl rfl rfl (Y_move rfl rfl) ?_; clear hf; intro a hf
          refine sY hf hs rfl rfl rfl (Y_move rfl rfl) ?_; clear hf; intro a hf
          refine sY hf hs rfl rfl rfl (Y_lenH rfl rfl el22 rfl) ?_; clear hf; intro a hf
          refine sY hf hs rfl rfl rfl (Y_lss rfl rfl rfl) ?_; clear hf; intro a hf
          refine wpO_nil ?_
          refine wpL_cond hf rfl (fun hb208 => ?_) (fun hb208 => ?_)
          · have hm206 := bif_t hm206 hb208
            refine wpL_skip ?_
            refine wpL_seq ?_
            refine wpL_block0 ?_
            refine wpL_seq ?_
            obtain ⟨r240, hj241, hm206⟩ := bind_some hm206
            refine wpL_cut (fun a w => ∃ b239 : Bool, b239 = r240 ∧ Fr a 36 [(0, .slice A_p0_a_1 p0_a.length c_p0_a_1), (3, .int .i64 x138), (35, .bool b239)] ∧ St [] W w []) ?_ ?_
            · refine wpL_draw (by kernel_rfl) (by kernel_rfl) hs ?_
              refine qY hf rfl rfl rfl (Y_move rfl rfl) ?_; clear hf; intro a hf
              refine qY hf rfl rfl rfl (Y_move rfl rfl) ?_; clear hf; intro a hf
              obtain ⟨q242, hi243, hj241⟩ := bind_some hj241
              obtain ⟨hi243a, hi243b, hi243q⟩ := idx_some hi243
              obtain ⟨vs244, hv245, hr246⟩ := id h_p0_a_1
              obtain ⟨A247, c248, hv249, hR250⟩ := hr246 _ _ hi243q
              refine qY hf rfl rfl rfl (Y_index rfl rfl rfl el22 ti23 (Rd.isAt hv245 hv249) hi243a hi243b) ?_; clear hf; intro a hf
              refine qY hf rfl rfl rfl (Y_load_rd rfl rfl (fun w hs => hv245.at hs) (at1 hv249) ag23) ?_; clear hf; intro a hf
              obtain ⟨r251, hc252, hj241⟩ := bind_some hj241
              refine qCall hf rfl rfl rfl rfl (cap := []) rfl rfl en120 (v := .bool r251) (fun w hs => Calls.scal (spec_l02Vector_ok F q242 A247 q242.length c248 rfl _ _ hc252 (hR250.at hs))) ?_; clear hf; intro a hf
              refine qY hf rfl rfl rfl (Y_not rfl rfl) ?_; clear hf; intro a hf
              refine qY hf rfl rfl rfl (Y_move rfl rfl) ?_; clear hf; intro a hf
              refine bsplit (!r251) (fun hb253 => ?_) (fun hb253 => ?_)
              · have hj241 := bif_t hj241 hb253
                refine qNo hf rfl rfl rfl (congrArg (fun b => some (Value.bool b)) hb253) rfl rfl rfl ?_; clear hf; intro a hf
                refine qNo hf rfl rfl rfl (congrArg (fun b => some (Value.bool b)) hb253) rfl rfl rfl ?_; clear hf; intro a hf
                refine qNo hf rfl rfl rfl (congrArg (fun b => some (Value.bool b)) hb253) rfl rfl rfl ?_; clear hf; intro a hf
                refine qNo hf rfl rfl rfl (congrArg (fun b => some (Value.bool b)) hb253) rfl rfl rfl ?_; clear hf; intro a hf
                refine qNo hf rfl rfl rfl (congrArg (fun b => some (Value.bool b)) hb253) rfl rfl rfl ?_; clear hf; intro a hf
                refine qNo hf rfl rfl rfl (congrArg (fun b => some (Value.bool b)) hb253) rfl rfl rfl ?_; clear hf; intro a hf
                refine qNo hf rfl rfl rfl (congrArg (fun b => some (Value.bool b)) hb253) rfl rfl rfl ?_; clear hf; intro a hf
                refine qNo hf rfl rfl rfl (congrArg (fun b => some (Value.bool b)) hb253) rfl rfl rfl ?_; clear hf; intro a hf
                refine qNo hf rfl rfl rfl (congrArg (fun b => some (Value.bool b)) hb253) rfl rfl rfl ?_; clear hf; intro a hf
                refine qNo hf rfl rfl rfl (congrArg (fun b => some (Value.bool b)) hb253) rfl rfl rfl ?_; clear hf; intro a hf
                refine qY hf rfl rfl rfl (Y_pickT rfl (congrArg (fun b => some (Value.bool b)) hb253) rfl) ?_; clear hf; intro a hf
                refine qNil ?_; clear hs; intro w hs
                refine wpL_nil (then_normal ?_)
                exact ⟨true, Option.some.inj hj241, (FrD.pick (FrD.pick (FrD.pick hf.none hf rfl) hf rfl) hf rfl), hs⟩
              · have hj241 := bif_f hj241 hb253
                refine qYg hf rfl rfl rfl (congrArg (fun b => some (Value.bool b)) hb253) rfl rfl rfl (Y_move rfl rfl) ?_; clear hf; intro a hf
                refine qYg hf rfl rfl rfl (congrArg (fun b => some (Value.bool b)) hb253) rfl rfl rfl (Y_move rfl rfl) ?_; clear hf; intro a hf
                obtain ⟨q254, hi255, hj241⟩ := bind_some hj241
                obtain ⟨hi255a, hi255b, hi255q⟩ := idx_some hi255
                obtain ⟨vs256, hv257, hr258⟩ := id h_p0_a_1
                obtain ⟨A259, c260, hv261, hR262⟩ := hr258 _ _ hi255q
                refine qYg hf rfl rfl rfl (congrArg (fun b => some (Value.bool b)) hb253) rfl rfl rfl (Y_index rfl rfl rfl el22 ti23 (Rd.isAt hv257 hv261) hi255a hi255b) ?_; clear hf; intro a hf
                refine qYg hf rfl rfl rfl (congrArg (fun b => some (Value.bool b)) hb253) rfl rfl rfl (Y_load_rd rfl rfl (fun w hs => hv257.at hs) (at1 hv261) ag23) ?_; clear hf; intro a hf
                refine qYg hf rfl rfl rfl (congrArg (fun b => some (Value.bool b)) hb253) rfl rfl rfl (Y_lenH rfl rfl el23 rfl) ?_; clear hf; intro a hf
                refine qYg hf rfl rfl rfl (congrArg (fun b => some (Value.bool b)) hb253) rfl rfl rfl (Y_move rfl rfl) ?_; clear hf; intro a hf
                obtain ⟨q263, hi264, hj241⟩ := bind_some hj241
                obtain ⟨hi264a, hi264b, hi264q⟩ := idx_some hi264
                obtain ⟨vs265, hv266, hr267⟩ := id h_p0_a_1
                obtain ⟨A268, c269, hv270, hR271⟩ := hr267 _ _ hi264q
                refine qYg hf rfl rfl rfl (congrArg (fun b => some (Value.bool b)) hb253) rfl rfl rfl (Y_index rfl rfl rfl el22 ti23 (Rd.isAt hv266 hv270) hi264a hi264b) ?_; clear hf; intro a hf
                refine qYg hf rfl rfl rfl (congrArg (fun b => some (Value.bool b)) hb253) rfl rfl rfl (Y_load_rd rfl rfl (fun w hs => hv266.at hs) (at1 hv270) ag23) ?_; clear hf; intro a hf
                refine qYg hf rfl rfl rfl (congrArg (fun b => some (Value.bool b)) hb253) rfl rfl rfl (Y_lenH rfl rfl el23 rfl) ?_; clear hf; intro a hf
                refine qYg hf rfl rfl rfl (congrArg (fun b => some (Value.bool b)) hb253) rfl rfl rfl (Y_neq rfl rfl rfl) ?_; clear hf; intro a hf
                refine qY hf rfl rfl rfl (Y_pickF rfl (congrArg (fun b => some (Value.bool b)) hb253) rfl) ?_; clear hf; intro a hf
                refine qNil ?_; clear hs; intro w hs
                refine wpL_nil (then_normal ?_)
                exact ⟨((q254.length : Int) != (q263.length : Int)), Option.some.inj hj241, (FrD.pick (FrD.pick (FrD.pick hf.none hf rfl) hf rfl) hf rfl), hs⟩
            · rintro a w ⟨b239, hr_, hf, hs⟩
              subst hr_
              try dsimp only at hm206
              refine wpL_cond hf rfl (fun hb272 => ?_) (fun hb272 => ?_)
              · have hm206 := bif_t hm206 hb272
                refine wpL_seq ?_
                refine wpL_region ?_
                refine sY hf hs rfl rfl rfl (Y_assign rfl rfl) ?_; clear hf; intro a hf
                refine wpO_nil ?_
                obtain rfl := Option.some.inj hm206
                try dsimp only at hm
                obtain rfl := Option.some.inj hm
                refine wpL_ret (Qb_ret (Ql_ret (Qb_ret (ret_tmp rfl hf rfl ?_))))
                exact ⟨_, rfl, rfl, hs⟩
              · have hm206 := bif_f hm206 hb272
                refine wpL_skip ?_
                refine wpL_nil (Qb_normal ?_)
                refine wpL_region ?_
                refine sY hf hs rfl rfl rfl (Y_move rfl rfl) ?_; clear hf; intro a hf
                refine sY hf hs rfl rfl rfl (Y_add rfl rfl rfl) ?_; clear hf; intro a hf
                refine sY hf hs rfl rfl rfl (Y_assign rfl rfl) ?_; clear hf; intro a hf
                refine wpO_nil ?_
                refine wpL_nil (Ql_normal ?_)
                exact ⟨(IntKind.i64.wrap (x138 + 1)), hm206, (FrD.pick (FrD.pick hf.none hf rfl) hf rfl), hs⟩
          · have hm206 := bif_f hm206 hb208
            refine wpL_exit (Ql_exit (Qb_exit ?_))
            exact ⟨Option.some.inj hm206, hf.none, hs⟩
      · rintro a w ⟨hr_, hf, hs⟩
        subst hr_
        try dsimp only at hm
        refine wpL_seq ?_
        refine wpL_region ?_
        refine sY hf hs rfl rfl rfl (Y_assign rfl rfl) ?_; clear hf; intro a hf
        refine wpO_nil ?_
        obtain rfl := Option.some.inj hm
        refine wpL_ret (ret_tmp rfl hf rfl ?_)
        exact ⟨_, rfl, rfl, hs⟩

set_option maxRecDepth 100000 in
theorem spec_l02Square_ok (F : Nat) (p0_a : List (List Int)) (A_p0_a_1 : Option Addr) (n_p0_a_1 c_p0_a_1 : Nat) (hn_p0_a_1 : n_p0_a_1 = p0_a.length) (r : Bool) (W : World) (hm : spec_l02Square F p0_a = some r) (h_p0_a_1 : RdM W A_p0_a_1 p0_a) :
    Calls Try.prog 119 [.slice A_p0_a_1 n_p0_a_1 c_p0_a_1].toArray W fun e w' => ∃ v, e = .returned v ∧ v = .bool r ∧ St [] W w' [] := by
  subst hn_p0_a_1
  unfold spec_l02Square at hm
  refine Calls.enter (N := 14) Try.func119 rfl rfl rfl (fun a hf => ?_)
  have hs := St.start W
  obtain ⟨w, hw_⟩ : ∃ w, w = W := ⟨W, rfl⟩
  clear hw_ w
  refine wpL_seq ?_
  refine wpL_region ?_
  refine sY hf hs rfl rfl rfl (Y_assign rfl rfl) ?_; clear hf; intro a hf
  refine wpO_nil ?_
  refine wpL_seq ?_
  obtain ⟨r14, hj15, hm⟩ := bind_some hm
  refine wpL_cut (fun a w => ∃ b13 : Bool, b13 = r14 ∧ Fr a 14 [(2, .bool b13)] ∧ St [] W w []) ?_ ?_
  · refine wpL_region ?_
    refine sY hf hs rfl rfl rfl (Y_move rfl rfl) ?_; clear hf; intro a hf
    obtain ⟨r16, hc17, hj15⟩ := bind_some hj15
    refine sCall hf rfl rfl rfl rfl (cap := []) rfl rfl en76 (spec_IsMatrix_ok F p0_a A_p0_a_1 p0_a.length c_p0_a_1 rfl _ _ hc17 (h_p0_a_1.at hs)) ?_; clear hf
    rintro _ w ⟨rfl, hs1⟩ a hf
    have hs : St [] W w [] := hs.ext hs1.below
    clear hs1
    refine sY hf hs rfl rfl rfl (Y_move rfl rfl) ?_; clear hf; intro a hf
    refine bsplit r16 (fun hb18 => ?_) (fun hb18 => ?_)
    · have hj15 := bif_t hj15 hb18
      refine sYg hf hs rfl rfl rfl (congrArg (fun b => some (Value.bool b)) hb18) rfl rfl rfl (Y_move rfl rfl) ?_; clear hf; intro a hf
      refine sYg hf hs rfl rfl rfl (congrArg (fun b => some (Value.bool b)) hb18) rfl rfl rfl (Y_lenH rfl rfl el22 rfl) ?_; clear hf; intro a hf
      refine sYg hf hs rfl rfl rfl (congrArg (fun b => some (Value.bool b)) hb18) rfl rfl rfl (Y_move rfl rfl) ?_; clear hf; intro a hf
      obtain ⟨q19, hi20, hj15⟩ := bind_some hj15
      obtain ⟨hi20a, hi20b, hi20q⟩ := idx_some hi20
      obtain ⟨vs21, hv22, hr23⟩ := id h_p0_a_1
      obtain ⟨A24, c25, hv26, hR27⟩ := hr23 _ _ hi20q
      refine sYg hf hs rfl rfl rfl (congrArg (fun b => some (Value.bool b)) hb18) rfl rfl rfl (Y_index rfl rfl rfl el22 ti23 (Rd.isAt hv22 hv26) hi20a hi20b) ?_; clear hf; intro a hf
      refine sYg hf hs rfl rfl rfl (congrArg (fun b => some (Value.bool b)) hb18) rfl rfl rfl (Y_load_rd rfl rfl (fun w hs => hv22.at hs) (at1 hv26) ag23) ?_; clear hf; intro a hf
      refine sYg hf hs rfl rfl rfl (congrArg (fun b => some (Value.bool b)) hb18) rfl rfl rfl (Y_lenH rfl rfl el23 rfl) ?_; clear hf; intro a hf
      refine sYg hf hs rfl rfl rfl (congrArg (fun b => some (Value.bool b)) hb18) rfl rfl rfl (Y_eql rfl rfl rfl) ?_; clear hf; intro a hf
      refine sY hf hs rfl rfl rfl (Y_pickT rfl (congrArg (fun b => some (Value.bool b)) hb18) rfl) ?_; clear hf; intro a hf
      refine sY hf hs rfl rfl rfl (Y_assign rfl rfl) ?_; clear hf; intro a hf
      refine wpO_nil ?_
      refine wpL_nil (then_normal ?_)
      exact ⟨((p0_a.length : Int) == (q19.length : Int)), Option.some.inj hj15, (FrD.pick hf.none hf rfl), hs⟩
    · have hj15 := bif_f hj15 hb18
      refine sNo hf rfl rfl rfl (congrArg (fun b => some (Value.bool b)) hb18) rfl rfl rfl ?_; clear hf; intro a hf
      refine sNo hf rfl rfl rfl (congrArg (fun b => some (Value.bool b)) hb18) rfl rfl rfl ?_; clear hf; intro a hf
      refine sNo hf rfl rfl rfl (congrArg (fun b => some (Value.bool b)) hb18) rfl rfl rfl ?_; clear hf; intro a hf
      refine sNo hf rfl rfl rfl (congrArg (fun b => some (Value.bool b)) hb18) rfl rfl rfl ?_; clear hf; intro a hf
      refine sNo hf rfl rfl rfl (congrArg (fun b => some (Value.bool b)) hb18) rfl rfl rfl ?_; clear hf; intro a hf
      refine sNo hf rfl rfl rfl (congrArg (fun b => some (Value.bool b)) hb18) rfl rfl rfl ?_; clear hf; intro a hf
      refine sNo hf rfl rfl rfl (congrArg (fun b => some (Value.bool b)) hb18) rfl rfl rfl ?_; clear hf; intro a hf
      refine sY hf hs rfl rfl rfl (Y_pickF rfl (congrArg (fun b => some (Value.bool b)) hb18) rfl) ?_; clear hf; intro a hf
      refine sY hf hs rfl rfl rfl (Y_assign rfl rfl) ?_; clear hf; intro a hf
      refine wpO_nil ?_
      refine wpL_nil (then_normal ?_)
      exact ⟨false, Option.some.inj hj15, (FrD.pick hf.none hf rfl), hs⟩
  · rintro a w ⟨b13, hr_, hf, hs⟩
    subst hr_
    try dsimp only at hm
    obtain rfl := Option.some.inj hm
    refine wpL_ret (ret_tmp rfl hf rfl ?_)
    exact ⟨_, rfl, rfl, hs⟩

set_option maxRecDepth 100000 in
theorem spec_IsSystem_ok (F : Nat) (p0_s : GSystem) (A_p0_s_1 : Option Addr) (n_p0_s_1 c_p0_s_1 : Nat) (hn_p0_s_1 : n_p0_s_1 = p0_s.A.length) (A_p0_s_2 : Option Addr) (n_p0_s_2 c_p0_s_2 : Nat) (hn_p0_s_2 : n_p0_s_2 = p0_s.B.length) (A_p0_s_3 : Option Addr) (n_p0_s_3 c_p0_s_3 : Nat) (hn_p0_s_3 : n_p0_s_3 = p0_s.C.length) (r : Bool) (W : World) (hm : spec_IsSystem F p0_s = some r) (h_p0_s_1 : RdM W A_p0_s_1 p0_s.A) (h_p0_s_2 : Rd W A_p0_s_2 (ints p0_s.B)) (h_p0_s_3 : Rd W A_p0_s_3 (ints p0_s.C)) :
    Calls Try.prog 32 [.agg #[.slice A_p0_s_1 n_p0_s_1 c_p0_s_1, .slice A_p0_s_2 n_p0_s_2 c_p0_s_2, .slice A_p0_s_3 n_p0_s_3 c_p0_s_3]].toArray W fun e w' => ∃ v, e = .returned v ∧ v = .bool r ∧ St [] W w' [] := by
  subst hn_p0_s_1
  subst hn_p0_s_2
  subst hn_p0_s_3
  unfold spec_IsSystem at hm
  refine Calls.enter (N := 34) Try.func32 rfl rfl rfl (fun a hf => ?_)
  have hs := St.start W
  obtain ⟨w, hw_⟩ : ∃ w, w = W := ⟨W, rfl⟩
  clear hw_ w
  refine wpL_seq ?_
  refine wpL_region ?_
  refine sBox hf hs rfl rfl rfl rfl rfl (cs := [.slice A_p0_s_1 p0_s.A.length c_p0_s_1, .slice A_p0_s_2 p0_s.B.length c_p0_s_2, .slice A_p0_s_3 p0_s.C.length c_p0_s_3]) rfl ?_; clear hf hs; intro a w b1 hs hf
  have hs : St [] W w [.blk b1 27 [.slice A_p0_s_1 p0_s.A.length c_p0_s_1, .slice A_p0_s_2 p0_s.B.length c_p0_s_2, .slice A_p0_s_3 p0_s.C.length c_p0_s_3]] := hs
  refine sY hf hs rfl rfl rfl (Y_assign rfl rfl) ?_; clear hf; intro a hf
  refine wpO_nil ?_
  refine wpL_seq ?_
  obtain ⟨r13, hj14, hm⟩ := bind_some hm
  refine wpL_cut (fun a w => ∃ b12 : Bool, b12 = r13 ∧ Fr a 34 [(2, .bool b12)] ∧ St [] W w []) ?_ ?_
  · refine wpL_region ?_
    refine sY hf hs rfl rfl rfl (Y_fieldAddr rfl rfl fo27_0) ?_; clear hf; intro a hf
    refine sY hf hs rfl rfl rfl (Y_load_blk rfl rfl (i := 0) rfl rfl ag22) ?_; clear hf; intro a hf
    obtain ⟨r15, hc16, hj14⟩ := bind_some hj14
    refine sCall hf rfl rfl rfl rfl (cap := []) rfl rfl en119 (spec_l02Square_ok F p0_s.A A_p0_s_1 p0_s.A.length c_p0_s_1 rfl _ _ hc16 (h_p0_s_1.at hs)) ?_; clear hf
    rintro _ w ⟨rfl, hs1⟩ a hf
    have hs : St [] W w [.blk b1 27 [.slice A_p0_s_1 p0_s.A.length c_p0_s_1, .slice A_p0_s_2 p0_s.B.length c_p0_s_2, .slice A_p0_s_3 p0_s.C.length c_p0_s_3]] := hs.ext hs1.below
    clear hs1
    refine sY hf hs rfl rfl rfl (Y_move rfl rfl) ?_; clear hf; intro a hf
    refine bsplit r15 (fun hb17 => ?_) (fun hb17 => ?_)
    · have hj14 := bif_t hj14 hb17
      refine sYg hf hs rfl rfl rfl (congrArg (fun b => some (Value.bool b)) hb17) rfl rfl rfl (Y_fieldAddr rfl rfl fo27_1) ?_; clear hf; intro a hf
      refine sYg hf hs rfl rfl rfl (congrArg (fun b => some (Value.bool b)) hb17) rfl rfl rfl (Y_load_blk rfl rfl (i := 0) rfl rfl ag23) ?_; clear hf; intro a hf
      obtain ⟨r18, hc19, hj14⟩ := bind_some hj14
      refine sCallg hf rfl rfl rfl (congrArg (fun b => some (Value.bool b)) hb17) rfl rfl rfl rfl (cap := []) rfl rfl en120 (spec_l02Vector_ok F p0_s.B A_p0_s_2 p0_s.B.length c_p0_s_2 rfl _ _ hc19 (h_p0_s_2.at hs)) ?_; clear hf
      rintro _ w ⟨rfl, hs1⟩ a hf
      have hs : St [] W w [.blk b1 27 [.slice A_p0_s_1 p0_s.A.length c_p0_s_1, .slice A_p0_s_2 p0_s.B.length c_p0_s_2, .slice A_p0_s_3 p0_s.C.length c_p0_s_3]] := hs.ext hs1.below
      clear hs1
      refine sY hf hs rfl rfl rfl (Y_pickT rfl (congrArg (fun b => some (Value.bool b)) hb17) rfl) ?_; clear hf; intro a hf
      refine sY hf hs rfl rfl rfl (Y_move rfl rfl) ?_; clear hf; intro a hf
      refine bsplit r18 (fun hb20 => ?_) (fun hb20 => ?_)
      · have hj14 := bif_t hj14 hb20
        refine sYg hf hs rfl rfl rfl (congrArg (fun b => some (Value.bool b)) hb20) rfl rfl rfl (Y_fieldAddr rfl rfl fo27_2) ?_; clear hf; intro a hf
        refine sYg hf hs rfl rfl rfl (congrArg (fun b => some (Value.bool b)) hb20) rfl rfl rfl (Y_load_blk rfl rfl (i := 0) rfl rfl ag23) ?_; clear hf; intro a hf
        obtain ⟨r21, hc22, hj14⟩ := bind_some hj14
        refine sCallg hf rfl rfl rfl (congrArg (fun b => some (Value.bool b)) hb20) rfl rfl rfl rfl (cap := []) rfl rfl en120 (spec_l02Vector_ok F p0_s.C A_p0_s_3 p0_s.C.length c_p0_s_3 rfl _ _ hc22 (h_p0_s_3.at hs)) ?_; clear hf
        rintro _ w ⟨rfl, hs1⟩ a hf
        have hs : St [] W w [.blk b1 27 [.slice A_p0_s_1 p0_s.A.length c_p0_s_1, .slice A_p0_s_2 p0_s.B.length c_p0_s_2, .slice A_p0_s_3 p0_s.C.length c_p0_s_3]] := hs.ext hs1.below
        clear hs1
        refine sY hf hs rfl rfl rfl (Y_pickT rfl (congrArg (fun b => some (Value.bool b)) hb20) rfl) ?_; clear hf; intro a hf
        refine sY hf hs rfl rfl rfl (Y_move rfl rfl) ?_; clear hf; intro a hf
        refine bsplit r21 (fun hb23 => ?_) (fun hb23 => ?_)
        · have hj14 := bif_t hj14 hb23
          refine sYg hf hs rfl rfl rfl (congrArg (fun b => some (Value.bool b)) hb23) rfl rfl rfl (Y_fieldAddr rfl rfl fo27_1) ?_; clear hf; intro a hf
          refine sYg hf hs rfl rfl rfl (congrArg (fun b => some (Value.bool b)) hb23) rfl rfl rfl (Y_load_blk rfl rfl (i := 0) rfl rfl ag23) ?_; clear hf; intro a hf
          refine sYg hf hs rfl rfl rfl (congrArg (fun b => some (Value.bool b)) hb23) rfl rfl rfl (Y_lenH rfl rfl el23 rfl) ?_; clear hf; intro a hf
          refine sYg hf hs rfl rfl rfl (congrArg (fun b => some (Value.bool b)) hb23) rfl rfl rfl (Y_fieldAddr rfl rfl fo27_0) ?_; clear hf; intro a hf
          refine sYg hf hs rfl rfl rfl (congrArg (fun b => some (Value.bool b)) hb23) rfl rfl rfl (Y_load_blk rfl rfl (i := 0) rfl rfl ag22) ?_; clear hf; intro a hf
          refine sYg hf hs rfl rfl rfl (congrArg (fun b => some (Value.bool b)) hb23) rfl rfl rfl (Y_lenH rfl rfl el22 rfl) ?_; clear hf; intro a hf
          refine sYg hf hs rfl rfl rfl (congrArg (fun b => some (Value.bool b)) hb23) rfl rfl rfl (Y_eql rfl rfl rfl) ?_; clear hf; intro a hf
          refine sY hf hs rfl rfl rfl (Y_pickT rfl (congrArg (fun b => some (Value.bool b)) hb23) rfl) ?_; clear hf; intro a hf
          refine sY hf hs rfl rfl rfl (Y_move rfl rfl) ?_; clear hf; intro a hf
          refine bsplit ((p0_s.B.length : Int) == (p0_s.A.length : Int)) (fun hb24 => ?_) (fun hb24 => ?_)
          · have hj14 := bif_t hj14 hb24
            refine sYg hf hs rfl rfl rfl (congrArg (fun b => some (Value.bool b)) hb24) rfl rfl rfl (Y_fieldAddr rfl rfl fo27_2) ?_; clear hf; intro a hf
            refine sYg hf hs rfl rfl rfl (congrArg (fun b => some (Value.bool b)) hb24) rfl rfl rfl (Y_load_blk rfl rfl (i := 0) rfl rfl ag23) ?_; clear hf; intro a hf
            refine sYg hf hs rfl rfl rfl (congrArg (fun b => some (Value.bool b)) hb24) rfl rfl rfl (Y_lenH rfl rfl el23 rfl) ?_; clear hf; intro a hf
            refine sYg hf hs rfl rfl rfl (congrArg (fun b => some (Value.bool b)) hb24) rfl rfl rfl (Y_fieldAddr rfl rfl fo27_0) ?_; clear hf; intro a hf
            refine sYg hf hs rfl rfl rfl (congrArg (fun b => some (Value.bool b)) hb24) rfl rfl rfl (Y_load_blk rfl rfl (i := 0) rfl rfl ag22) ?_; clear hf; intro a hf
            refine sYg hf hs rfl rfl rfl (congrArg (fun b => some (Value.bool b)) hb24) rfl rfl rfl (Y_lenH rfl rfl el22 rfl) ?_; clear hf; intro a hf
            refine sYg hf hs rfl rfl rfl (congrArg (fun b => some (Value.bool b)) hb24) rfl rfl rfl (Y_eql rfl rfl rfl) ?_; clear hf; intro a hf
            refine sY hf hs rfl rfl rfl (Y_pickT rfl (congrArg (fun b => some (Value.bool b)) hb24) rfl) ?_; clear hf; intro a hf
            refine sY hf hs rfl rfl rfl (Y_assign rfl rfl) ?_; clear hf; intro a hf
            refine wpO_nil ?_
            refine wpL_nil (then_normal ?_)
            exact ⟨((p0_s.C.length : Int) == (p0_s.A.length : Int)), Option.some.inj hj14, (FrD.pick hf.none hf rfl), hs.sel [] (by decide)⟩
          · have hj14 := bif_f hj14 hb24
            refine sNo hf rfl rfl rfl (congrArg (fun b => some (Value.bool b)) hb24) rfl rfl rfl ?_; clear hf; intro a hf
            refine sNo hf rfl rfl rfl (congrArg (fun b => some (Value.bool b)) hb24) rfl rfl rfl ?_; clear hf; intro a hf
            refine sNo hf rfl rfl rfl (congrArg (fun b => some (Value.bool b)) hb24) rfl rfl rfl ?_; clear hf; intro a hf
            refine sNo hf rfl rfl rfl (congrArg (fun b => some (Value.bool b)) hb24) rfl rfl rfl ?_; clear hf; intro a hf
            refine sNo hf rfl rfl rfl (congrArg (fun b => some (Value.bool b)) hb24) rfl rfl rfl ?_; clear hf; intro a hf
            refine sNo hf rfl rfl rfl (congrArg (fun b => some (Value.bool b)) hb24) rfl rfl rfl ?_; clear hf; intro a hf
            refine sNo hf rfl rfl rfl (congrArg (fun b => some (Value.bool b)) hb24) rfl rfl rfl ?_; clear hf; intro a hf
            refine sY hf hs rfl rfl rfl (Y_pickF rfl (congrArg (fun b => some (Value.bool b)) hb24) rfl) ?_; clear hf; intro a hf
            refine sY hf hs rfl rfl rfl (Y_assign rfl rfl) ?_; clear hf; intro a hf
            refine wpO_nil ?_
            refine wpL_nil (then_normal ?_)
            exact ⟨false, Option.some.inj hj14, (FrD.pick hf.none hf rfl), hs.sel [] (by decide)⟩
        · have hj14 := bif_f hj14 hb23
          refine sNo hf rfl rfl rfl (congrArg (fun b => some (Value.bool b)) hb23) rfl rfl rfl ?_; clear hf; intro a hf
          refine sNo hf rfl rfl rfl (congrArg (fun b => some (Value.bool b)) hb23) rfl rfl rfl ?_; clear hf; intro a hf
          refine sNo hf rfl rfl rfl (congrArg (fun b => some (Value.bool b)) hb23) rfl rfl rfl ?_; clear hf; intro a hf
          refine sNo hf rfl rfl rfl (congrArg (fun b => some (Value.bool b)) hb23) rfl rfl rfl ?_; clear hf; intro a hf
          refine sNo hf rfl rfl rfl (congrArg (fun b => some (Value.bool b)) hb23) rfl rfl rfl ?_; clear hf; intro a hf
          refine sNo hf rfl rfl rfl (congrArg (fun b => some (Value.bool b)) hb23) rfl rfl rfl ?_; clear hf; intro a hf
          refine sNo hf rfl rfl rfl (congrArg (fun b => some (Value.bool b)) hb23) rfl rfl rfl ?_; clear hf; intro a hf
          refine sY hf hs rfl rfl rfl (Y_pickF rfl (congrArg (fun b => some (Value.bool b)) hb23) rfl) ?_; clear hf; intro a hf
          refine sY hf hs rfl rfl rfl (Y_move rfl rfl) ?_; clear hf; intro a hf
          refine sNo hf rfl rfl rfl rfl rfl rfl rfl ?_; clear hf; intro a hf
          refine sNo hf rfl rfl rfl rfl rfl rfl rfl ?_; clear hf; intro a hf
          refine sNo hf rfl rfl rfl rfl rfl rfl rfl ?_; clear hf; intro a hf
          refine sNo hf rfl rfl rfl rfl rfl rfl rfl ?_; clear hf; intro a hf
          refine sNo hf rfl rfl rfl rfl rfl rfl rfl ?_; clear hf; intro a hf
          refine sNo hf rfl rfl rfl rfl rfl rfl rfl ?_; clear hf; intro a hf
          refine sNo hf rfl rfl rfl rfl rfl rfl rfl ?_; clear hf; intro a hf
          refine sY hf hs rfl rfl rfl (Y_pickF rfl rfl rfl) ?_; clear hf; intro a hf
          refine sY hf hs rfl rfl rfl (Y_assign rfl rfl) ?_; clear hf; intro a hf
          refine wpO_nil ?_
          refine wpL_nil (then_normal ?_)
          exact ⟨false, Option.some.inj hj14, (FrD.pick hf.none hf rfl), hs.sel [] (by decide)⟩
      · have hj14 := bif_f hj14 hb20
        refine sNo hf rfl rfl rfl (congrArg (fun b => some (Value.bool b)) hb20) rfl rfl rfl ?_; clear hf; intro a hf
        refine sNo hf rfl rfl rfl (congrArg (fun b => some (Value.bool b)) hb20) rfl rfl rfl ?_; clear hf; intro a hf
        refine sNo hf rfl rfl rfl (congrArg (fun b => some (Value.bool b)) hb20) rfl rfl rfl ?_; clear hf; intro a hf
        refine sY hf hs rfl rfl rfl (Y_pickF rfl (congrArg (fun b => some (Value.bool b)) hb20) rfl) ?_; clear hf; intro a hf
        refine sY hf hs rfl rfl rfl (Y_move rfl rfl) ?_; clear hf; intro a hf
        refine sNo hf rfl rfl rfl rfl rfl rfl rfl ?_; clear hf; intro a hf
        refine sNo hf rfl rfl rfl rfl rfl rfl rfl ?_; clear hf; intro a hf
        refine sNo hf rfl rfl rfl rfl rfl rfl rfl ?_; clear hf; intro a hf
        refine sNo hf rfl rfl rfl rfl rfl rfl rfl ?_; clear hf; intro a hf
        refine sNo hf rfl rfl rfl rfl rfl rfl rfl ?_; clear hf; intro a hf
        refine sNo hf rfl rfl rfl rfl rfl rfl rfl ?_; clear hf; intro a hf
        refine sNo hf rfl rfl rfl rfl rfl rfl rfl ?_; clear hf; intro a hf
        refine sY hf hs rfl rfl rfl (Y_pickF rfl rfl rfl) ?_; clear hf; intro a hf
        refine sY hf hs rfl rfl rfl (Y_move rfl rfl) ?_; clear hf; intro a hf
        refine sNo hf rfl rfl rfl rfl rfl rfl rfl ?_; clear hf; intro a hf
        refine sNo hf rfl rfl rfl rfl rfl rfl rfl ?_; clear hf; intro a hf
        refine sNo hf rfl rfl rfl rfl rfl rfl rfl ?_; clear hf; intro a hf
        refine sNo hf rfl rfl rfl rfl rfl rfl rfl ?_; clear hf; intro a hf
        refine sNo hf rfl rfl rfl rfl rfl rfl rfl ?_; clear hf; intro a hf
        refine sNo hf rfl rfl rfl rfl rfl rfl rfl ?_; clear hf; intro a hf
        refine sNo hf rfl rfl rfl rfl rfl rfl rfl ?_; clear hf; intro a hf
        refine sY hf hs rfl rfl rfl (Y_pickF rfl rfl rfl) ?_; clear hf; intro a hf
        refine sY hf hs rfl rfl rfl (Y_assign rfl rfl) ?_; clear hf; intro a hf
        refine wpO_nil ?_
        refine wpL_nil (then_normal ?_)
        exact ⟨false, Option.some.inj hj14, (FrD.pick hf.none hf rfl), hs.sel [] (by decide)⟩
    · have hj14 := bif_f hj14 hb17
      refine sNo hf rfl rfl rfl (congrArg (fun b => some (Value.bool b)) hb17) rfl rfl rfl ?_; clear hf; intro a hf
      refine sNo hf rfl rfl rfl (congrArg (fun b => some (Value.bool b)) hb17) rfl rfl rfl ?_; clear hf; intro a hf
      refine sNo hf rfl rfl rfl (congrArg (fun b => some (Value.bool b)) hb17) rfl rfl rfl ?_; clear hf; intro a hf
      refine sY hf hs rfl rfl rfl (Y_pickF rfl (congrArg (fun b => some (Value.bool b)) hb17) rfl) ?_; clear hf; intro a hf
      refine sY hf hs rfl rfl rfl (Y_move rfl rfl) ?_; clear hf; intro a hf
      refine sNo hf rfl rfl rfl rfl rfl rfl rfl ?_; clear hf; intro a hf
      refine sNo hf rfl rfl rfl rfl rfl rfl rfl ?_; clear hf; intro a hf
      refine sNo hf rfl rfl rfl rfl rfl rfl rfl ?_; clear hf; intro a hf
      refine sY hf hs rfl rfl rfl (Y_pickF rfl rfl rfl) ?_; clear hf; intro a hf
      refine sY hf hs rfl rfl rfl (Y_move rfl rfl) ?_; clear hf; intro a hf
      refine sNo hf rfl rfl rfl rfl rfl rfl rfl ?_; clear hf; intro a hf
      refine sNo hf rfl rfl rfl rfl rfl rfl rfl ?_; clear hf; intro a hf
      refine sNo hf rfl rfl rfl rfl rfl rfl rfl ?_; clear hf; intro a hf
      refine sNo hf rfl rfl rfl rfl rfl rfl rfl ?_; clear hf; intro a hf
      refine sNo hf rfl rfl rfl rfl rfl rfl rfl ?_; clear hf; intro a hf
      refine sNo hf rfl rfl rfl rfl rfl rfl rfl ?_; clear hf; intro a hf
      refine sNo hf rfl rfl rfl rfl rfl rfl rfl ?_; clear hf; intro a hf
      refine sY hf hs rfl rfl rfl (Y_pickF rfl rfl rfl) ?_; clear hf; intro a hf
      refine sY hf hs rfl rfl rfl (Y_move rfl rfl) ?_; clear hf; intro a hf
      refine sNo hf rfl rfl rfl rfl rfl rfl rfl ?_; clear hf; intro a hf
      refine sNo hf rfl rfl rfl rfl rfl rfl rfl ?_; clear hf; intro a hf
      refine sNo hf rfl rfl rfl rfl rfl rfl rfl ?_; clear hf; intro a hf
      refine sNo hf rfl rfl rfl rfl rfl rfl rfl ?_; clear hf; intro a hf
      refine sNo hf rfl rfl rfl rfl rfl rfl rfl ?_; clear hf; intro a hf
      refine sNo hf rfl rfl rfl rfl rfl rfl rfl ?_; clear hf; intro a hf
      refine sNo hf rfl rfl rfl rfl rfl rfl rfl ?_; clear hf; intro a hf
      refine sY hf hs rfl rfl rfl (Y_pickF rfl rfl rfl) ?_; clear hf; intro a hf
      refine sY hf hs rfl rfl rfl (Y_assign rfl rfl) ?_; clear hf; intro a hf
      refine wpO_nil ?_
      refine wpL_nil (then_normal ?_)
      exact ⟨false, Option.some.inj hj14, (FrD.pick hf.none hf rfl), hs.sel [] (by decide)⟩
  · rintro a w ⟨b12, hr_, hf, hs⟩
    subst hr_
    try dsimp only at hm
    obtain rfl := Option.some.inj hm
    refine wpL_ret (ret_tmp rfl hf rfl ?_)
    exact ⟨_, rfl, rfl, hs⟩

end Go.Proofs.Ytgkgimglgjfcjaa
