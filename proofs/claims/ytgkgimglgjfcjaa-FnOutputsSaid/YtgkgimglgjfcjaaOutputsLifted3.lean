/- The functions do what their models say. -/
import Derived.Test.YtgkgimglgjfcjaaOutputsLifted2
import Derived.Test.YtgkgimglgjfcjaaRows
namespace Go.Proofs.Ytgkgimglgjfcjaa
open Go.RowKit

set_option maxRecDepth 100000 in
theorem spec_l02Add_ok (F : Nat) (p0_a : List (List Int)) (A_p0_a_1 : Option Addr) (n_p0_a_1 c_p0_a_1 : Nat) (hn_p0_a_1 : n_p0_a_1 = p0_a.length) (p1_b : List (List Int)) (A_p1_b_1 : Option Addr) (n_p1_b_1 c_p1_b_1 : Nat) (hn_p1_b_1 : n_p1_b_1 = p1_b.length) (r : List (List Int)) (W : World) (hm : spec_l02Add F p0_a p1_b = some r) (h_p0_a_1 : RdM W A_p0_a_1 p0_a) (h_p1_b_1 : RdM W A_p1_b_1 p1_b) :
    Calls Try.prog 169 [.slice A_p0_a_1 n_p0_a_1 c_p0_a_1, .slice A_p1_b_1 n_p1_b_1 c_p1_b_1].toArray W fun e w' => ∃ v, e = .returned v ∧ ∃ A664, ∃ n665, ∃ c666, ∃ vs668, v = .slice A664 n665 c666 ∧ n665 = r.length ∧ St [] W w' [.mat A664 n665 c666 23 2 vs668 r] := by
  subst hn_p0_a_1
  subst hn_p1_b_1
  unfold spec_l02Add at hm
  refine Calls.enter (N := 47) Try.func169 rfl rfl rfl (fun a hf => ?_)
  have hs := St.start W
  obtain ⟨w, hw_⟩ : ∃ w, w = W := ⟨W, rfl⟩
  clear hw_ w
  refine wpL_seq ?_
  refine wpL_region ?_
  refine sY hf hs rfl rfl rfl (Y_assign rfl rfl) ?_; clear hf; intro a hf
  refine wpO_nil ?_
  refine wpL_seq ?_
  refine wpL_region ?_
  refine sY hf hs rfl rfl rfl (Y_move rfl rfl) ?_; clear hf; intro a hf
  obtain ⟨r1, hc2, hm⟩ := bind_some hm
  refine sCall hf rfl rfl rfl rfl (cap := []) rfl rfl en184 (spec_l02Own_ok F p0_a A_p0_a_1 p0_a.length c_p0_a_1 rfl _ _ hc2 (h_p0_a_1.at hs)) ?_; clear hf
  rintro _ w ⟨A3, n4, c5, vs7, rfl, hn6, hs1⟩ a hf
  have hs : St [] W w [.mat A3 n4 c5 23 2 vs7 r1] := hs.join hs1
  clear hs1
  refine sY hf hs rfl rfl rfl (Y_assign rfl rfl) ?_; clear hf; intro a hf
  refine wpO_nil ?_
  refine wpL_seq ?_
  refine wpL_seq ?_
  refine wpL_region ?_
  refine sY hf hs rfl rfl rfl (Y_assign rfl rfl) ?_; clear hf; intro a hf
  refine wpO_nil ?_
  obtain ⟨r499, hl500, hm⟩ := bind_some hm
  refine wpL_block (fun a w => ∃ ms497 : List (List Int), ms497 = r499 ∧ n4 = ms497.length ∧ Fr a 47 [(5, .slice A3 n4 c5)] ∧ St [] W w [.mat A3 n4 c5 23 2 vs7 ms497]) ?_ ?_
  · refine wpL_loop (fun n a w => ∃ ms333 : List (List Int), ∃ x335 : Int, spec_l02Add_L4 F p1_b n ms333 x335 = some r499 ∧ n4 = ms333.length ∧ Fr a 47 [(1, .slice A_p1_b_1 p1_b.length c_p1_b_1), (5, .slice A3 n4 c5), (6, .int .i64 x335)] ∧ St [] W w [.mat A3 n4 c5 23 2 vs7 ms333]) F ?_ ?_ ?_
    · exact ⟨r1, 0, hl500, hn6, (FrD.pick (FrD.pick (FrD.pick hf.none hf rfl) hf rfl) hf rfl), hs⟩
    · rintro a w ⟨ms333, x335, h0_, -, -, -⟩; simp [spec_l02Add_L4] at h0_
    · rintro n502 a w ⟨ms333, x335, hm501, hn334, hf, hs⟩
      rw [spec_l02Add_L4] at hm501
      refine wpL_seq ?_
      refine wpL_seq ?_
      refine wpL_region ?_
      refine sY hf hs rfl rfl rfl (Y_move rfl rfl) ?_; clear hf; intro a hf
      refine sY hf hs rfl rfl rfl (Y_move rfl rfl) ?_; clear hf; intro a hf
      refine sY hf hs rfl rfl rfl (Y_lenH rfl rfl el22 hn334) ?_; clear hf; intro a hf
      refine sY hf hs rfl rfl rfl (Y_lss rfl rfl rfl) ?_; clear hf; intro a hf
      refine wpO_nil ?_
      refine wpL_cond hf rfl (fun hb503 => ?_) (fun hb503 => ?_)
      · have hm501 := bif_t hm501 hb503
        refine wpL_skip ?_
        refine wpL_seq ?_
        refine wpL_block0 ?_
        refine wpL_seq ?_
        refine wpL_region ?_
        refine sY hf hs rfl rfl rfl (Y_assign rfl rfl) ?_; clear hf; intro a hf
        refine wpO_nil ?_
        obtain ⟨r623, hl624, hm501⟩ := bind_some hm501
        refine wpL_block (fun a w => ∃ ms621 : List (List Int), ms621 = r623 ∧ n4 = ms621.length ∧ Fr a 47 [(1, .slice A_p1_b_1 p1_b.length c_p1_b_1), (5, .slice A3 n4 c5), (6, .int .i64 x335)] ∧ St [] W w [.mat A3 n4 c5 23 2 vs7 ms621]) ?_ ?_
        · refine wpL_loop (fun n a w => ∃ ms581 : List (List Int), ∃ x583 : Int, spec_l02Add_L5 F p1_b x335 n ms581 x583 = some r623 ∧ n4 = ms581.length ∧ Fr a 47 [(1, .slice A_p1_b_1 p1_b.length c_p1_b_1), (5, .slice A3 n4 c5), (6, .int .i64 x335), (7, .int .i64 x583)] ∧ St [] W w [.mat A3 n4 c5 23 2 vs7 ms581]) F ?_ ?_ ?_
          · exact ⟨ms333, 0, hl624, hn334, (FrD.pick (FrD.pick (FrD.pick (FrD.pick hf.none hf rfl) hf rfl) hf rfl) hf rfl), hs⟩
          · rintro a w ⟨ms581, x583, h0_, -, -, -⟩; simp [spec_l02Add_L5] at h0_
          · rintro n626 a w ⟨ms581, x583, hm625, hn582, hf, hs⟩
            rw [spec_l02Add_L5] at hm625
            refine wpL_seq ?_
            refine wpL_seq ?_
            refine wpL_region ?_
            refine sY hf hs rfl rfl rfl (Y_move rfl rfl) ?_; clear hf; intro a hf
            refine sY hf hs rfl rfl rfl (Y_move rfl rfl) ?_; clear hf; intro a hf
            refine sY hf hs rfl rfl rfl (Y_move rfl rfl) ?_; clear hf; intro a hf
            obtain ⟨q627, hi628, hm625⟩ := bind_some hm625
            obtain ⟨hi628a, hi628b, hi628q⟩ := idx_some hi628
            obtain ⟨A629, c630, hv631⟩ := hs.matRow (i := 0) rfl hi628q
            refine sY hf hs rfl rfl rfl (Y_index rfl rfl rfl el22 ti23 (Rd.isAt (hs.rdV (i := 0) rfl) hv631) hi628a (ltn hn582 hi628b)) ?_; clear hf; intro a hf
            refine sY hf hs rfl rfl rfl (Y_load_rd rfl rfl (fun w hs => hs.rdV (i := 0) rfl) (at1 hv631) ag23) ?_; clear hf; intro a hf
            refine sY hf hs rfl rfl rfl (Y_lenH rfl rfl el23 rfl) ?_; clear hf; intro a hf
            refine sY hf hs rfl rfl rfl (Y_lss rfl rfl rfl) ?_; clear hf; intro a hf
            refine wpO_nil ?_
            refine wpL_cond hf rfl (fun hb632 => ?_) (fun hb632 => ?_)
            · have hm625 := bif_t hm625 hb632
              refine wpL_skip ?_
              refine wpL_seq ?_
              refine wpL_block0 ?_
              refine wpL_drawM [.mat A3 n4 c5 23 2 vs7 ms581] [21] (by kernel_rfl) hs ?_; clear hs; intro w hs
              have hs0 : St [] W w [.mat A3 n4 c5 23 2 vs7 ms581] := hs
              refine mYp (i := 0) rfl (by kernel_rfl) (by kernel_rfl) hf rfl rfl rfl (fun _ => Y_move rfl rfl) ?_; clear hf; intro a hf
              refine mYp (i := 1) rfl (by kernel_rfl) (by kernel_rfl) hf rfl rfl rfl (fun _ => Y_move rfl rfl) ?_; clear hf; intro a hf
              obtain ⟨q633, hi634, hm625⟩ := bind_some hm625
              obtain ⟨hi634a, hi634b, hi634q⟩ := idx_some hi634
              obtain ⟨A635, c636, hv637⟩ := hs.matRow (i := 0) rfl hi634q
              refine mYp (i := 2) rfl (by kernel_rfl) (by kernel_rfl) hf rfl rfl rfl (fun _ => Y_index rfl rfl rfl el22 ti23 (Rd.isAt (hs.rdV (i := 0) rfl) hv637) hi634a (ltn hn582 hi634b)) ?_; clear hf; intro a hf
              refine mY (i := 3) [[]] rfl (by kernel_rfl) (by kernel_rfl) hf hs0 rfl rfl rfl (Y_load_rd rfl rfl (fun w hs => hs.rdV (i := 0) rfl) (at1 hv637) ag23) ?_; clear hf; intro a hf
              refine mYp (i := 4) rfl (by kernel_rfl) (by kernel_rfl) hf rfl rfl rfl (fun _ => Y_move rfl rfl) ?_; clear hf; intro a hf
              refine mYp (i := 5) rfl (by kernel_rfl) (by kernel_rfl) hf rfl rfl rfl (fun _ => Y_move rfl rfl) ?_; clear hf; intro a hf
              refine mYp (i := 6) rfl (by kernel_rfl) (by kernel_rfl) hf rfl rfl rfl (fun _ => Y_move rfl rfl) ?_; clear hf; intro a hf
              obtain ⟨q638, hi639, hm625⟩ := bind_some hm625
              obtain ⟨hi639a, hi639b, hi639q⟩ := idx_some hi639
              obtain ⟨A640, c641, hv642⟩ := hs.matRow (i := 0) rfl hi639q
              refine mYp (i := 7) rfl (by kernel_rfl) (by kernel_rfl) hf rfl rfl rfl (fun _ => Y_index rfl rfl rfl el22 ti23 (Rd.isAt (hs.rdV (i := 0) rfl) hv642) hi639a (ltn hn582 hi639b)) ?_; clear hf; intro a hf
              refine mY (i := 8) [[]] rfl (by kernel_rfl) (by kernel_rfl) hf hs0 rfl rfl rfl (Y_load_rd rfl rfl (fun w hs => hs.rdV (i := 0) rfl) (at1 hv642) ag23) ?_; clear hf; intro a hf
              refine mYp (i := 9) rfl (by kernel_rfl) (by kernel_rfl) hf rfl rfl rfl (fun _ => Y_move rfl rfl) ?_; clear hf; intro a hf
              obtain ⟨q643, hi644, hm625⟩ := bind_some hm625
              obtain ⟨hi644a, hi644b, hi644q⟩ := idx_some hi644
              refine mYp (i := 10) rfl (by kernel_rfl) (by kernel_rfl) hf rfl rfl rfl (fun _ => Y_index rfl rfl rfl el23 ti2 (Rd.isAt (hs.rdRow (i := 0) rfl ⟨hi639q, hv642⟩) (at1 (ints_at hi644q))) hi644a hi644b) ?_; clear hf; intro a hf
              refine mY (i := 11) [[]] rfl (by kernel_rfl) (by kernel_rfl) hf hs0 rfl rfl rfl (Y_load_rd rfl rfl (fun w hs => hs.rdRow (i := 0) rfl ⟨hi639q, hv642⟩) (at1 (ints_at hi644q)) ag2) ?_; clear hf; intro a hf
              refine mYp (i := 12) rfl (by kernel_rfl) (by kernel_rfl) hf rfl rfl rfl (fun _ => Y_move rfl rfl) ?_; clear hf; intro a hf
              refine mYp (i := 13) rfl (by kernel_rfl) (by kernel_rfl) hf rfl rfl rfl (fun _ => Y_move rfl rfl) ?_; clear hf; intro a hf
              obtain ⟨q645, hi646, hm625⟩ := bind_some hm625
              obtain ⟨hi646a, hi646b, hi646q⟩ := idx_some hi646
              obtain ⟨vs647, hv648, hr649⟩ := id h_p1_b_1
              obtain ⟨A650, c651, hv652, hR653⟩ := hr649 _ _ hi646q
              refine mYp (i := 14) rfl (by kernel_rfl) (by kernel_rfl) hf rfl rfl rfl (fun _ => Y_index rfl rfl rfl el22 ti23 (Rd.isAt hv648 hv652) hi646a hi646b) ?_; clear hf; intro a hf
              refine mY (i := 15) [[]] rfl (by kernel_rfl) (by kernel_rfl) hf hs0 rfl rfl rfl (Y_load_rd rfl rfl (fun w hs => hv648.at hs) (at1 hv652) ag23) ?_; clear hf; intro a hf
              refine mYp (i := 16) rfl (by kernel_rfl) (by kernel_rfl) hf rfl rfl rfl (fun _ => Y_move rfl rfl) ?_; clear hf; intro a hf
              obtain ⟨q654, hi655, hm625⟩ := bind_some hm625
              obtain ⟨hi655a, hi655b, hi655q⟩ := idx_some hi655
              refine mYp (i := 17) rfl (by kernel_rfl) (by kernel_rfl) hf rfl rfl rfl (fun _ => Y_index rfl rfl rfl el23 ti2 (Rd.isAt (hR653.at hs) (at1 (ints_at hi655q))) hi655a hi655b) ?_; clear hf; intro a hf
              refine mY (i := 18) [[]] rfl (by kernel_rfl) (by kernel_rfl) hf hs0 rfl rfl rfl (Y_load_rd rfl rfl (fun w hs => hR653.at hs) (at1 (ints_at hi655q)) ag2) ?_; clear hf; intro a hf
              refine mYp (i := 19) rfl (by kernel_rfl) (by kernel_rfl) hf rfl rfl rfl (fun _ => Y_max rfl rfl rfl) ?_; clear hf; intro a hf
              obtain ⟨q656, hi657, hm625⟩ := bind_some hm625
              obtain ⟨hi657a, hi657b, hi657q⟩ := idx_some hi657
              refine mYp (i := 20) rfl (by kernel_rfl) (by kernel_rfl) hf rfl rfl rfl (fun _ => Y_index rfl rfl rfl el23 ti2 (Rd.isAt (hs.rdRow (i := 0) rfl ⟨hi634q, hv637⟩) (at1 (ints_at hi657q))) hi657a hi657b) ?_; clear hf; intro a hf
              refine mRun (i := 21) rfl (by kernel_rfl) ?_
              obtain ⟨xs658, hu660, hm625⟩ := bind_some hm625
              obtain ⟨ms659, hu661, hm625⟩ := bind_some hm625
              refine sStoreM (i := 0) (k := x335) hf hs rfl rfl rfl rfl rfl rfl hi634q hv637 rfl hu660 hu661 ti2 ?_; clear hs; intro w hs
              obtain ⟨hq662, hv663⟩ := rowUpd hu660 hu661 hv637
              have hs : St [] W w [.mat A3 n4 c5 23 2 vs7 ms659] := hs
              refine wpO_nil ⟨Or.inl (by decide), ?_⟩
              refine mDone (by kernel_rfl) ?_
              clear hs0
              refine wpL_nil (Qb_normal ?_)
              refine wpL_region ?_
              refine sY hf hs rfl rfl rfl (Y_move rfl rfl) ?_; clear hf; intro a hf
              refine sY hf hs rfl rfl rfl (Y_add rfl rfl rfl) ?_; clear hf; intro a hf
              refine sY hf hs rfl rfl rfl (Y_assign rfl rfl) ?_; clear hf; intro a hf
              refine wpO_nil ?_
              refine wpL_nil (Ql_normal ?_)
              exact ⟨ms659, (IntKind.i64.wrap (x583 + 1)), hm625, ((hn582).trans (upd_len hu661).symm), (FrD.pick (FrD.pick (FrD.pick (FrD.pick hf.none hf rfl) hf rfl) hf rfl) hf rfl), hs⟩
            · have hm625 := bif_f hm625 hb632
              refine wpL_exit (Ql_exit (Qb_exit ?_))
              exact ⟨ms581, Option.some.inj hm625, hn582, (FrD.pick (FrD.pick (FrD.pick hf.none hf rfl) hf rfl) hf rfl), hs⟩
        · rintro a w ⟨ms621, hr_, hn622, hf, hs⟩
          subst hr_
          try dsimp only at hm501
          refine wpL_nil (Qb_normal ?_)
          refine wpL_region ?_
          refine sY hf hs rfl rfl rfl (Y_move rfl rfl) ?_; clear hf; intro a hf
          refine sY hf hs rfl rfl rfl (Y_add rfl rfl rfl) ?_; clear hf; intro a hf
          refine sY hf hs rfl rfl rfl (Y_assign rfl rfl) ?_; clear hf; intro a hf
          refine wpO_nil ?_
          refine wpL_nil (Ql_normal ?_)
          exact ⟨ms621, (IntKind.i64.wrap (x335 + 1)), hm501, hn622, (FrD.pick (FrD.pick (FrD.pick hf.none hf rfl) hf rfl) hf rfl), hs⟩
      · have hm501 := bif_f hm501 hb503
        refine wpL_exit (Ql_exit (Qb_exit ?_))
        exact ⟨ms333, Option.some.inj hm501, hn334, (FrD.pick hf.none hf rfl), hs⟩
  · rintro a w ⟨ms497, hr_, hn498, hf, hs⟩
    subst hr_
    try dsimp only at hm
    refine wpL_seq ?_
    refine wpL_region ?_
    refine sY hf hs rfl rfl rfl (Y_move rfl rfl) ?_; clear hf; intro a hf
    refine sY hf hs rfl rfl rfl (Y_assign rfl rfl) ?_; clear hf; intro a hf
    refine wpO_nil ?_
    obtain rfl := Option.some.inj hm
    refine wpL_ret (ret_tmp rfl hf rfl ?_)
    exact ⟨_, rfl, A3, n4, c5, vs7, rfl, hn498, hs⟩

set_option maxRecDepth 100000 in
theorem spec_l24Dot_ok (F : Nat) (p0_c : List Int) (A_p0_c_1 : Option Addr) (n_p0_c_1 c_p0_c_1 : Nat) (hn_p0_c_1 : n_p0_c_1 = p0_c.length) (p1_x : List Int) (A_p1_x_1 : Option Addr) (n_p1_x_1 c_p1_x_1 : Nat) (hn_p1_x_1 : n_p1_x_1 = p1_x.length) (r : Int) (W : World) (hm : spec_l24Dot F p0_c p1_x = some r) (h_p0_c_1 : Rd W A_p0_c_1 (ints p0_c)) (h_p1_x_1 : Rd W A_p1_x_1 (ints p1_x)) :
    Calls Try.prog 73 [.slice A_p0_c_1 n_p0_c_1 c_p0_c_1, .slice A_p1_x_1 n_p1_x_1 c_p1_x_1].toArray W fun e w' => ∃ v, e = .returned v ∧ v = .int .i64 r ∧ St [] W w' [] := by
  subst hn_p0_c_1
  subst hn_p1_x_1
  unfold spec_l24Dot at hm
  refine Calls.enter (N := 25) Try.func73 rfl rfl rfl (fun a hf => ?_)
  have hs := St.start W
  obtain ⟨w, hw_⟩ : ∃ w, w = W := ⟨W, rfl⟩
  clear hw_ w
  refine wpL_seq ?_
  refine wpL_region ?_
  refine sY hf hs rfl rfl rfl (Y_assign rfl rfl) ?_; clear hf; intro a hf
  refine wpO_nil ?_
  refine wpL_seq ?_
  refine wpL_region ?_
  refine sY hf hs rfl rfl rfl (Y_assign rfl rfl) ?_; clear hf; intro a hf
  refine wpO_nil ?_
  refine wpL_seq ?_
  refine wpL_seq ?_
  refine wpL_region ?_
  refine sY hf hs rfl rfl rfl (Y_assign rfl rfl) ?_; clear hf; intro a hf
  refine wpO_nil ?_
  obtain ⟨r27, hl28, hm⟩ := bind_some hm
  refine wpL_block (fun a w => ∃ x26 : Int, x26 = r27 ∧ Fr a 25 [(5, .int .i64 x26)] ∧ St [] W w []) ?_ ?_
  · refine wpL_loop (fun n a w => ∃ x17 : Int, ∃ x18 : Int, spec_l24Dot_L1 F p0_c p1_x n x17 x18 = some r27 ∧ Fr a 25 [(0, .slice A_p0_c_1 p0_c.length c_p0_c_1), (1, .slice A_p1_x_1 p1_x.length c_p1_x_1), (5, .int .i64 x17), (6, .int .i64 x18)] ∧ St [] W w []) F ?_ ?_ ?_
    · exact ⟨(-1000000000000000), 0, hl28, (FrD.pick (FrD.pick (FrD.pick (FrD.pick hf.none hf rfl) hf rfl) hf rfl) hf rfl), hs⟩
    · rintro a w ⟨x17, x18, h0_, -, -⟩; simp [spec_l24Dot_L1] at h0_
    · rintro n30 a w ⟨x17, x18, hm29, hf, hs⟩
      rw [spec_l24Dot_L1] at hm29
      refine wpL_seq ?_
      refine wpL_seq ?_
      refine wpL_region ?_
      refine sY hf hs rfl rfl rfl (Y_move rfl rfl) ?_; clear hf; intro a hf
      refine sY hf hs rfl rfl rfl (Y_move rfl rfl) ?_; clear hf; intro a hf
      refine sY hf hs rfl rfl rfl (Y_lenH rfl rfl el23 rfl) ?_; clear hf; intro a hf
      refine sY hf hs rfl rfl rfl (Y_lss rfl rfl rfl) ?_; clear hf; intro a hf
      refine wpO_nil ?_
      refine wpL_cond hf rfl (fun hb31 => ?_) (fun hb31 => ?_)
      · have hm29 := bif_t hm29 hb31
        refine wpL_skip ?_
        refine wpL_seq ?_
        refine wpL_block0 ?_
        refine wpL_draw (by kernel_rfl) (by kernel_rfl) hs ?_
        refine qY hf rfl rfl rfl (Y_move rfl rfl) ?_; clear hf; intro a hf
        refine qY hf rfl rfl rfl (Y_move rfl rfl) ?_; clear hf; intro a hf
        refine qY hf rfl rfl rfl (Y_move rfl rfl) ?_; clear hf; intro a hf
        obtain ⟨q32, hi33, hm29⟩ := bind_some hm29
        obtain ⟨hi33a, hi33b, hi33q⟩ := idx_some hi33
        refine qY hf rfl rfl rfl (Y_index rfl rfl rfl el23 ti2 (Rd.isAt (h_p0_c_1.at hs) (at1 (ints_at hi33q))) hi33a hi33b) ?_; clear hf; intro a hf
        refine qY hf rfl rfl rfl (Y_load_rd rfl rfl (fun w hs => h_p0_c_1.at hs) (at1 (ints_at hi33q)) ag2) ?_; clear hf; intro a hf
        refine qY hf rfl rfl rfl (Y_move rfl rfl) ?_; clear hf; intro a hf
        refine qY hf rfl rfl rfl (Y_move rfl rfl) ?_; clear hf; intro a hf
        obtain ⟨q34, hi35, hm29⟩ := bind_some hm29
        obtain ⟨hi35a, hi35b, hi35q⟩ := idx_some hi35
        refine qY hf rfl rfl rfl (Y_index rfl rfl rfl el23 ti2 (Rd.isAt (h_p1_x_1.at hs) (at1 (ints_at hi35q))) hi35a hi35b) ?_; clear hf; intro a hf
        refine qY hf rfl rfl rfl (Y_load_rd rfl rfl (fun w hs => h_p1_x_1.at hs) (at1 (ints_at hi35q)) ag2) ?_; clear hf; intro a hf
        obtain ⟨r36, hc37, hm29⟩ := bind_some hm29
        refine qCall hf rfl rfl rfl rfl (cap := []) rfl rfl en154 (v := .int .i64 r36) (fun w hs => Calls.scal (spec_l01Times_ok F q32 q34 _ _ hc37)) ?_; clear hf; intro a hf
        refine qY hf rfl rfl rfl (Y_max rfl rfl rfl) ?_; clear hf; intro a hf
        refine qY hf rfl rfl rfl (Y_assign rfl rfl) ?_; clear hf; intro a hf
        refine qNil ?_; clear hs; intro w hs
        refine wpL_nil (Qb_normal ?_)
        refine wpL_region ?_
        refine sY hf hs rfl rfl rfl (Y_move rfl rfl) ?_; clear hf; intro a hf
        refine sY hf hs rfl rfl rfl (Y_add rfl rfl rfl) ?_; clear hf; intro a hf
        refine sY hf hs rfl rfl rfl (Y_assign rfl rfl) ?_; clear hf; intro a hf
        refine wpO_nil ?_
        refine wpL_nil (Ql_normal ?_)
        exact ⟨(max x17 r36), (IntKind.i64.wrap (x18 + 1)), hm29, (FrD.pick (FrD.pick (FrD.pick (FrD.pick hf.none hf rfl) hf rfl) hf rfl) hf rfl), hs⟩
      · have hm29 := bif_f hm29 hb31
        refine wpL_exit (Ql_exit (Qb_exit ?_))
        exact ⟨x17, Option.some.inj hm29, (FrD.pick hf.none hf rfl), hs⟩
  · rintro a w ⟨x26, hr_, hf, hs⟩
    subst hr_
    try dsimp only at hm
    refine wpL_seq ?_
    refine wpL_region ?_
    refine sY hf hs rfl rfl rfl (Y_move rfl rfl) ?_; clear hf; intro a hf
    refine sY hf hs rfl rfl rfl (Y_assign rfl rfl) ?_; clear hf; intro a hf
    refine wpO_nil ?_
    obtain rfl := Option.some.inj hm
    refine wpL_ret (ret_tmp rfl hf rfl ?_)
    exact ⟨_, rfl, rfl, hs⟩

set_option maxHeartbeats 2000000 in
set_option maxRecDepth 100000 in
theorem spec_l24Run_ok (F : Nat) (p0_s : GSystem) (A_p0_s_1 : Option Addr) (n_p0_s_1 c_p0_s_1 : Nat) (hn_p0_s_1 : n_p0_s_1 = p0_s.A.length) (A_p0_s_2 : Option Addr) (n_p0_s_2 c_p0_s_2 : Nat) (hn_p0_s_2 : n_p0_s_2 = p0_s.B.length) (A_p0_s_3 : Option Addr) (n_p0_s_3 c_p0_s_3 : Nat) (hn_p0_s_3 : n_p0_s_3 = p0_s.C.length) (p1_x : List Int) (A_p1_x_1 : Option Addr) (n_p1_x_1 c_p1_x_1 : Nat) (hn_p1_x_1 : n_p1_x_1 = p1_x.length) (p2_inputs : List Int) (A_p2_inputs_1 : Option Addr) (n_p2_inputs_1 c_p2_inputs_1 : Nat) (hn_p2_inputs_1 : n_p2_inputs_1 = p2_inputs.length) (r : List Int × List Int × Bool) (W : World) (hm : spec_l24Run F p0_s p1_x p2_inputs = some r) (h_p0_s_1 : RdM W A_p0_s_1 p0_s.A) (h_p0_s_2 : Rd W A_p0_s_2 (ints p0_s.B)) (h_p0_s_3 : Rd W A_p0_s_3 (ints p0_s.C)) (h_p1_x_1 : Rd W A_p1_x_1 (ints p1_x)) (h_p2_inputs_1 : Rd W A_p2_inputs_1 (ints p2_inputs)) :
    Calls Try.prog 113 [.agg #[.slice A_p0_s_1 n_p0_s_1 c_p0_s_1, .slice A_p0_s_2 n_p0_s_2 c_p0_s_2, .slice A_p0_s_3 n_p0_s_3 c_p0_s_3], .slice A_p1_x_1 n_p1_x_1 c_p1_x_1, .slice A_p2_inputs_1 n_p2_inputs_1 c_p2_inputs_1].toArray W fun e w' => ∃ v, e = .returned v ∧ ∃ A343, ∃ n344, ∃ c345, ∃ A347, ∃ n348, ∃ c349, ∃ A350, ∃ n351, ∃ c352, ∃ ys353, v = .tuple #[.slice A343 n344 c345, .slice A347 n348 c349, .bool r.2.2] ∧ n344 = r.1.length ∧ n348 = r.2.1.length ∧ Ei A_p1_x_1 n_p1_x_1 c_p1_x_1 p1_x A350 n351 c352 ys353 A347 n348 c349 r.2.1 ∧ St [] W w' [.row A343 n344 c345 2 1 (ints r.1), .row A350 n351 c352 2 1 (ints ys353)] := by
  subst hn_p0_s_1
  subst hn_p0_s_2
  subst hn_p0_s_3
  subst hn_p1_x_1
  subst hn_p2_inputs_1
  unfold spec_l24Run at hm
  refine Calls.enter (N := 60) Try.func113 rfl rfl rfl (fun a hf => ?_)
  have hs := St.start W
  obtain ⟨w, hw_⟩ : ∃ w, w = W := ⟨W, rfl⟩
  clear hw_ w
  refine wpL_seq ?_
  refine wpL_region ?_
  refine sBox hf hs rfl rfl rfl rfl rfl (cs := [.slice A_p0_s_1 p0_s.A.length c_p0_s_1, .slice A_p0_s_2 p0_s.B.length c_p0_s_2, .slice A_p0_s_3 p0_s.C.length c_p0_s_3]) rfl ?_; clear hf hs; intro a w b1 hs hf
  have hs : St [] W w [.blk b1 27 [.slice A_p0_s_1 p0_s.A.length c_p0_s_1, .slice A_p0_s_2 p0_s.B.length c_p0_s_2, .slice A_p0_s_3 p0_s.C.length c_p0_s_3]] := hs
  refine sY hf hs rfl rfl rfl (Y_assign rfl rfl) ?_; clear hf; intro a hf
  refine sY hf hs rfl rfl rfl (Y_assign rfl rfl) ?_; clear hf; intro a hf
  refine sY hf hs rfl rfl rfl (Y_assign rfl rfl) ?_; clear hf; intro a hf
  refine wpO_nil ?_
  refine wpL_seq ?_
  refine wpL_region ?_
  refine sEmpty hf hs rfl rfl rfl rfl el23 ti2 ?_; clear hf hs; intro a w A2 hs hf
  have hs : St [] W w [.blk b1 27 [.slice A_p0_s_1 p0_s.A.length c_p0_s_1, .slice A_p0_s_2 p0_s.B.length c_p0_s_2, .slice A_p0_s_3 p0_s.C.length c_p0_s_3], .row A2 0 0 2 1 (ints ([] : List Int))] := hs
  refine sY hf hs rfl rfl rfl (Y_assign rfl rfl) ?_; clear hf; intro a hf
  refine wpO_nil ?_
  refine wpL_seq ?_
  refine wpL_seq ?_
  refine wpL_region ?_
  refine sY hf hs rfl rfl rfl (Y_assign rfl rfl) ?_; clear hf; intro a hf
  refine wpO_nil ?_
  obtain ⟨r264, hl265, hm⟩ := bind_some hm
  have hs : St [] W _ [.blk b1 27 [.slice A_p0_s_1 p0_s.A.length c_p0_s_1, .slice A_p0_s_2 p0_s.B.length c_p0_s_2, .slice A_p0_s_3 p0_s.C.length c_p0_s_3], .row A2 0 0 2 1 (ints ([] : List Int)), .row none 0 0 2 1 (ints ([] : List Int))] := hs.addNil 2 1
  refine wpL_block (fun a w => ∃ xs248 : List Int, ∃ xs259 : List Int, ∃ A249, ∃ n250, ∃ c251, ∃ A252, ∃ n253, ∃ c254, ∃ ys255 : List Int, ∃ A260, ∃ n261, ∃ c262, Sum.inr (xs248, xs259) = r264 ∧ n250 = xs248.length ∧ Ei A_p1_x_1 p1_x.length c_p1_x_1 p1_x A252 n253 c254 ys255 A249 n250 c251 xs248 ∧ n261 = xs259.length ∧ Fr a 60 [(1, .slice A249 n250 c251), (9, .slice A260 n261 c262)] ∧ St [] W w [.row A260 n261 c262 2 1 (ints xs259), .row A252 n253 c254 2 1 (ints ys255)]) ?_ ?_
  · refine wpL_loop (fun n a w => ∃ xs161 : List Int, ∃ xs172 : List Int, ∃ x177 : Int, ∃ A162, ∃ n163, ∃ c164, ∃ A165, ∃ n166, ∃ c167, ∃ ys168 : List Int, ∃ A173, ∃ n174, ∃ c175, spec_l24Run_L1 F p0_s p2_inputs n xs161 xs172 x177 = some r264 ∧ n163 = xs161.length ∧ Ei A_p1_x_1 p1_x.length c_p1_x_1 p1_x A165 n166 c167 ys168 A162 n163 c164 xs161 ∧ n174 = xs172.length ∧ Fr a 60 [(1, .slice A162 n163 c164), (2, .slice A_p2_inputs_1 p2_inputs.length c_p2_inputs_1), (3, .pointer (some ⟨b1, 0, none⟩)), (9, .slice A173 n174 c175), (10, .int .i64 x177)] ∧ St [] W w [.blk b1 27 [.slice A_p0_s_1 p0_s.A.length c_p0_s_1, .slice A_p0_s_2 p0_s.B.length c_p0_s_2, .slice A_p0_s_3 p0_s.C.length c_p0_s_3], .row A173 n174 c175 2 1 (ints xs172), .row A165 n166 c167 2 1 (ints ys168)]) F ?_ ?_ ?_
    · exact ⟨p1_x, ([] : List Int), 0, A_p1_x_1, p1_x.length, c_p1_x_1, none, 0, 0, ([] : List Int), A2, 0, 0, hl265, rfl, (.inl ⟨rfl, rfl, rfl, rfl⟩), rfl, (FrD.pick (FrD.pick (FrD.pick (FrD.pick (FrD.pick hf.none hf rfl) hf rfl) hf rfl) hf rfl) hf rfl), hs⟩
    · rintro a w ⟨xs161, xs172, x177, A162, n163, c164, A165, n166, c167, ys168, A173, n174, c175, h0_, -, -, -, -, -⟩; simp [spec_l24Run_L1] at h0_
    · rintro n267 a w ⟨xs161, xs172, x177, A162, n163, c164, A165, n166, c167, ys168, A173, n174, c175, hm266, hn170, hg169, hn176, hf, hs⟩
      rw [spec_l24Run_L1] at hm266
      refine wpL_seq ?_
      refine wpL_seq ?_
      refine wpL_region ?_
      refine sY hf hs rfl rfl rfl (Y_move rfl rfl) ?_; clear hf; intro a hf
      refine sY hf hs rfl rfl rfl (Y_move rfl rfl) ?_; clear hf; intro a hf
      refine sY hf hs rfl rfl rfl (Y_lenH rfl rfl el23 rfl) ?_; clear hf; intro a hf
      refine sY hf hs rfl rfl rfl (Y_lss rfl rfl rfl) ?_; clear hf; intro a hf
      refine wpO_nil ?_
      refine wpL_cond hf rfl (fun hb268 => ?_) (fun hb268 => ?_)
      · have hm266 := bif_t hm266 hb268
        refine wpL_skip ?_
        refine wpL_seq ?_
        refine wpL_block0 ?_
        refine wpL_seq ?_
        refine wpL_drawM [.blk b1 27 [.slice A_p0_s_1 p0_s.A.length c_p0_s_1, .slice A_p0_s_2 p0_s.B.length c_p0_s_2, .slice A_p0_s_3 p0_s.C.length c_p0_s_3], .row A173 n174 c175 2 1 (ints xs172), .row A165 n166 c167 2 1 (ints ys168)] [10] (by kernel_rfl) hs ?_; clear hs; intro w hs
        have hs0 : St [] W w [.blk b1 27 [.slice A_p0_s_1 p0_s.A.length c_p0_s_1, .slice A_p0_s_2 p0_s.B.length c_p0_s_2, .slice A_p0_s_3 p0_s.C.length c_p0_s_3], .row A173 n174 c175 2 1 (ints xs172), .row A165 n166 c167 2 1 (ints ys168)] := hs
        refine mYp (i := 0) rfl (by kernel_rfl) (by kernel_rfl) hf rfl rfl rfl (fun _ => Y_fieldAddr rfl rfl fo27_0) ?_; clear hf; intro a hf
        refine mY (i := 1) [[3]] rfl (by kernel_rfl) (by kernel_rfl) hf hs0 rfl rfl rfl (Y_load_blk rfl rfl (i := 0) rfl rfl ag22) ?_; clear hf; intro a hf
        refine mYp (i := 2) rfl (by kernel_rfl) (by kernel_rfl) hf rfl rfl rfl (fun _ => Y_move rfl rfl) ?_; clear hf; intro a hf
        refine mYp (i := 4) rfl (by kernel_rfl) (by kernel_rfl) hf rfl rfl rfl (fun _ => Y_fieldAddr rfl rfl fo27_1) ?_; clear hf; intro a hf
        refine mY (i := 5) [[]] rfl (by kernel_rfl) (by kernel_rfl) hf hs0 rfl rfl rfl (Y_load_blk rfl rfl (i := 0) rfl rfl ag23) ?_; clear hf; intro a hf
        refine mYp (i := 6) rfl (by kernel_rfl) (by kernel_rfl) hf rfl rfl rfl (fun _ => Y_move rfl rfl) ?_; clear hf; intro a hf
        refine mYp (i := 7) rfl (by kernel_rfl) (by kernel_rfl) hf rfl rfl rfl (fun _ => Y_move rfl rfl) ?_; clear hf; intro a hf
        obtain ⟨q283, hi284, hm266⟩ := bind_some hm266
        obtain ⟨hi284a, hi284b, hi284q⟩ := idx_some hi284
        refine mYp (i := 8) rfl (by kernel_rfl) (by kernel_rfl) hf rfl rfl rfl (fun _ => Y_index rfl rfl rfl el23 ti2 (Rd.isAt (h_p2_inputs_1.at hs) (at1 (ints_at hi284q))) hi284a hi284b) ?_; clear hf; intro a hf
        refine mY (i := 9) [[]] rfl (by kernel_rfl) (by kernel_rfl) hf hs0 rfl rfl rfl (Y_load_rd rfl rfl (fun w hs => h_p2_inputs_1.at hs) (at1 (ints_at hi284q)) ag2) ?_; clear hf; intro a hf
        refine mRun (i := 3) rfl (by kernel_rfl) ?_
        obtain ⟨r285, hc286, hm266⟩ := bind_some hm266
        refine sCall hf rfl rfl rfl rfl (cap := []) rfl rfl en168 (spec_l02Apply_ok F p0_s.A A_p0_s_1 p0_s.A.length c_p0_s_1 rfl xs161 A162 n163 c164 hn170 _ _ hc286 (h_p0_s_1.at hs) (rdEither (Ei.rd (enc := ints) h_p1_x_1 hg169) hs (hs.rd (i := 2) rfl))) ?_; clear hf
        rintro _ w ⟨A287, n288, c289, rfl, hn290, hs1⟩ a hf
        have hs : St [] W w [.blk b1 27 [.slice A_p0_s_1 p0_s.A.length c_p0_s_1, .slice A_p0_s_2 p0_s.B.length c_p0_s_2, .slice A_p0_s_3 p0_s.C.length c_p0_s_3], .row A173 n174 c175 2 1 (ints xs172), .row A165 n166 c167 2 1 (ints ys168), .row A287 n288 c289 2 1 (ints r285)] := hs.join hs1
        clear hs1
        have hs0 : St [] W w [.blk b1 27 [.slice A_p0_s_1 p0_s.A.length c_p0_s_1, .slice A_p0_s_2 p0_s.B.length c_p0_s_2, .slice A_p0_s_3 p0_s.C.length c_p0_s_3], .row A173 n174 c175 2 1 (ints xs172), .row A165 n166 c167 2 1 (ints ys168)] := hs.sel [0, 1, 2] (by decide)
        refine wpO_nil ⟨Or.inr (fun _ => hs0), ?_⟩
        refine mRun (i := 10) rfl (by kernel_rfl) ?_
        obtain ⟨r291, hc292, hm266⟩ := bind_some hm266
        refine sCall hf rfl rfl rfl rfl (cap := []) rfl rfl en75 (spec_l07Shift_ok F p0_s.B A_p0_s_2 p0_s.B.length c_p0_s_2 rfl q283 _ _ hc292 (h_p0_s_2.at hs)) ?_; clear hf
        rintro _ w ⟨A293, n294, c295, rfl, hn296, hs1⟩ a hf
        have hs : St [] W w [.blk b1 27 [.slice A_p0_s_1 p0_s.A.length c_p0_s_1, .slice A_p0_s_2 p0_s.B.length c_p0_s_2, .slice A_p0_s_3 p0_s.C.length c_p0_s_3], .row A173 n174 c175 2 1 (ints xs172), .row A165 n166 c167 2 1 (ints ys168), .row A287 n288 c289 2 1 (ints r285), .row A293 n294 c295 2 1 (ints r291)] := hs.join hs1
        clear hs1
        refine wpO_nil ⟨Or.inl (by decide), ?_⟩
        refine mYp (i := 11) rfl (by kernel_rfl) (by kernel_rfl) hf rfl rfl rfl (fun _ => Y_assign rfl rfl) ?_; clear hf; intro a hf
        refine mYp (i := 12) rfl (by kernel_rfl) (by kernel_rfl) hf rfl rfl rfl (fun _ => Y_assign rfl rfl) ?_; clear hf; intro a hf
        refine mDone (by kernel_rfl) ?_
        clear hs0
        refine wpL_seq ?_
        refine wpL_seq ?_
        obtain ⟨r303, hj304, hm266⟩ := bind_some hm266
        refine wpL_cut (fun a w => ∃ b302 : Bool, b302 = r303 ∧ Fr a 60 [(2, .slice A_p2_inputs_1 p2_inputs.length c_p2_inputs_1), (3, .pointer (some ⟨b1, 0, none⟩)), (9, .slice A173 n174 c175), (10, .int .i64 x177), (11, .slice A287 n288 c289), (12, .slice A293 n294 c295), (39, .bool b302)] ∧ St [] W w [.blk b1 27 [.slice A_p0_s_1 p0_s.A.length c_p0_s_1, .slice A_p0_s_2 p0_s.B.length c_p0_s_2, .slice A_p0_s_3 p0_s.C.length c_p0_s_3], .row A173 n174 c175 2 1 (ints xs172), .row A287 n288 c289 2 1 (ints r285), .row A293 n294 c295 2 1 (ints r291)]) ?_ ?_
        · refine wpL_region ?_
          refine sY hf hs rfl rfl rfl (Y_move rfl rfl) ?_; clear hf; intro a hf
          obtain ⟨r305, hc306, hj304⟩ := bind_some hj304
          refine sCall hf rfl rfl rfl rfl (cap := []) rfl rfl en124 (spec_l01All_ok F r285 A287 n288 c289 hn290 false _ _ hc306 (hs.rd (i := 3) rfl)) ?_; clear hf
          rintro _ w ⟨rfl, hs1⟩ a hf
          have hs : St [] W w [.blk b1 27 [.slice A_p0_s_1 p0_s.A.length c_p0_s_1, .slice A_p0_s_2 p0_s.B.length c_p0_s_2, .slice A_p0_s_3 p0_s.C.length c_p0_s_3], .row A173 n174 c175 2 1 (ints xs172), .row A165 n166 c167 2 1 (ints ys168), .row A287 n288 c289 2 1 (ints r285), .row A293 n294 c295 2 1 (ints r291)] := hs.ext hs1.below
          clear hs1
          refine sY hf hs rfl rfl rfl (Y_not rfl rfl) ?_; clear hf; intro a hf
          refine sY hf hs rfl rfl rfl (Y_move rfl rfl) ?_; clear hf; intro a hf
          refine bsplit (!r305) (fun hb307 => ?_) (fun hb307 => ?_)
          · have hj304 := bif_t hj304 hb307
            refine sNo hf rfl rfl rfl (congrArg (fun b => some (Value.bool b)) hb307) rfl rfl rfl ?_; clear hf; intro a hf
            refine sNo hf rfl rfl rfl (congrArg (fun b => some (Value.bool b)) hb307) rfl rfl rfl ?_; clear hf; intro a hf
            refine sNo hf rfl rfl rfl (congrArg (fun b => some (Value.bool b)) hb307) rfl rfl rfl ?_; clear hf; intro a hf
            refine sY hf hs rfl rfl rfl (Y_pickT rfl (congrArg (fun b => some (Value.bool b)) hb307) rfl) ?_; clear hf; intro a hf
            refine wpO_nil ?_
            refine wpL_nil (then_normal ?_)
            exact ⟨true, Option.some.inj hj304, (FrD.pick (FrD.pick (FrD.pick (FrD.pick (FrD.pick (FrD.pick (FrD.pick hf.none hf rfl) hf rfl) hf rfl) hf rfl) hf rfl) hf rfl) hf rfl), hs.sel [0, 1, 3, 4] (by decide)⟩
          · have hj304 := bif_f hj304 hb307
            refine sYg hf hs rfl rfl rfl (congrArg (fun b => some (Value.bool b)) hb307) rfl rfl rfl (Y_move rfl rfl) ?_; clear hf; intro a hf
            obtain ⟨r308, hc309, hj304⟩ := bind_some hj304
            refine sCallg hf rfl rfl rfl (congrArg (fun b => some (Value.bool b)) hb307) rfl rfl rfl rfl (cap := []) rfl rfl en124 (spec_l01All_ok F r291 A293 n294 c295 hn296 false _ _ hc309 (hs.rd (i := 4) rfl)) ?_; clear hf
            rintro _ w ⟨rfl, hs1⟩ a hf
            have hs : St [] W w [.blk b1 27 [.slice A_p0_s_1 p0_s.A.length c_p0_s_1, .slice A_p0_s_2 p0_s.B.length c_p0_s_2, .slice A_p0_s_3 p0_s.C.length c_p0_s_3], .row A173 n174 c175 2 1 (ints xs172), .row A165 n166 c167 2 1 (ints ys168), .row A287 n288 c289 2 1 (ints r285), .row A293 n294 c295 2 1 (ints r291)] := hs.ext hs1.below
            clear hs1
            refine sYg hf hs rfl rfl rfl (congrArg (fun b => some (Value.bool b)) hb307) rfl rfl rfl (Y_not rfl rfl) ?_; clear hf; intro a hf
            refine sY hf hs rfl rfl rfl (Y_pickF rfl (congrArg (fun b => some (Value.bool b)) hb307) rfl) ?_; clear hf; intro a hf
            refine wpO_nil ?_
            refine wpL_nil (then_normal ?_)
            exact ⟨(!r308), Option.some.inj hj304, (FrD.pick (FrD.pick (FrD.pick (FrD.pick (FrD.pick (FrD.pick (FrD.pick hf.none hf rfl) hf rfl) hf rfl) hf rfl) hf rfl) hf rfl) hf rfl), hs.sel [0, 1, 3, 4] (by decide)⟩
        · rintro a w ⟨b302, hr_, hf, hs⟩
          subst hr_
          try dsimp only at hm266
          refine wpL_cond hf rfl (fun hb310 => ?_) (fun hb310 => ?_)
          · have hm266 := bif_t hm266 hb310
            refine wpL_seq ?_
            refine wpL_region ?_
            refine sY hf hs rfl rfl rfl (Y_assign rfl rfl) ?_; clear hf; intro a hf
            refine sY hf hs rfl rfl rfl (Y_assign rfl rfl) ?_; clear hf; intro a hf
            refine sY hf hs rfl rfl rfl (Y_assign rfl rfl) ?_; clear hf; intro a hf
            refine wpO_nil ?_
            have hs : St [] W _ [.blk b1 27 [.slice A_p0_s_1 p0_s.A.length c_p0_s_1, .slice A_p0_s_2 p0_s.B.length c_p0_s_2, .slice A_p0_s_3 p0_s.C.length c_p0_s_3], .row A173 n174 c175 2 1 (ints xs172), .row A287 n288 c289 2 1 (ints r285), .row A293 n294 c295 2 1 (ints r291), .row none 0 0 2 1 (ints ([] : List Int))] := hs.addNil 2 1
            have hs : St [] W _ [.blk b1 27 [.slice A_p0_s_1 p0_s.A.length c_p0_s_1, .slice A_p0_s_2 p0_s.B.length c_p0_s_2, .slice A_p0_s_3 p0_s.C.length c_p0_s_3], .row A173 n174 c175 2 1 (ints xs172), .row A287 n288 c289 2 1 (ints r285), .row A293 n294 c295 2 1 (ints r291), .row none 0 0 2 1 (ints ([] : List Int)), .row none 0 0 2 1 (ints ([] : List Int))] := hs.addNil 2 1
            obtain rfl := Option.some.inj hm266
            try dsimp only at hm
            obtain rfl := Option.some.inj hm
            refine wpL_ret (Qb_ret (Ql_ret (Qb_ret (ret_tmp3 rfl hf rfl rfl rfl ?_))))
            exact ⟨_, rfl, none, 0, 0, none, 0, 0, none, 0, 0, ([] : List Int), rfl, rfl, rfl, .inr ⟨rfl, rfl, rfl, rfl⟩, hs.sel [4, 5] (by decide)⟩
          · have hm266 := bif_f hm266 hb310
            refine wpL_skip ?_
            refine wpL_seq ?_
            refine wpL_region ?_
            refine sY hf hs rfl rfl rfl (Y_move rfl rfl) ?_; clear hf; intro a hf
            refine sOneM (j := 2) hf hs rfl rfl rfl rfl rfl rfl hn290 el22 ti23 ?_; clear hf hs; intro a w A313 hs hf
            have hs : St [] W w [.blk b1 27 [.slice A_p0_s_1 p0_s.A.length c_p0_s_1, .slice A_p0_s_2 p0_s.B.length c_p0_s_2, .slice A_p0_s_3 p0_s.C.length c_p0_s_3], .row A173 n174 c175 2 1 (ints xs172), .row A293 n294 c295 2 1 (ints r291), .mat A313 1 1 23 2 ([Value.slice A287 r285.length c289]) ([r285])] := hs
            refine sY hf hs rfl rfl rfl (Y_move rfl rfl) ?_; clear hf; intro a hf
            refine sOneM (j := 2) hf hs rfl rfl rfl rfl rfl rfl hn296 el22 ti23 ?_; clear hf hs; intro a w A315 hs hf
            have hs : St [] W w [.blk b1 27 [.slice A_p0_s_1 p0_s.A.length c_p0_s_1, .slice A_p0_s_2 p0_s.B.length c_p0_s_2, .slice A_p0_s_3 p0_s.C.length c_p0_s_3], .row A173 n174 c175 2 1 (ints xs172), .mat A313 1 1 23 2 ([Value.slice A287 r285.length c289]) ([r285]), .mat A315 1 1 23 2 ([Value.slice A293 r291.length c295]) ([r291])] := hs
            obtain ⟨r317, hc318, hm266⟩ := bind_some hm266
            refine sCall hf rfl rfl rfl rfl (cap := []) rfl rfl en169 (spec_l02Add_ok F ([r285]) A313 1 1 rfl ([r291]) A315 1 1 rfl _ _ hc318 (hs.rdM (i := 2) rfl) (hs.rdM (i := 3) rfl)) ?_; clear hf
            rintro _ w ⟨A319, n320, c321, vs323, rfl, hn322, hs1⟩ a hf
            have hs : St [] W w [.blk b1 27 [.slice A_p0_s_1 p0_s.A.length c_p0_s_1, .slice A_p0_s_2 p0_s.B.length c_p0_s_2, .slice A_p0_s_3 p0_s.C.length c_p0_s_3], .row A173 n174 c175 2 1 (ints xs172), .mat A313 1 1 23 2 ([Value.slice A287 r285.length c289]) ([r285]), .mat A315 1 1 23 2 ([Value.slice A293 r291.length c295]) ([r291]), .mat A319 n320 c321 23 2 vs323 r317] := hs.join hs1
            clear hs1
            obtain ⟨q324, hi325, hm266⟩ := bind_some hm266
            obtain ⟨hi325a, hi325b, hi325q⟩ := idx_some hi325
            obtain ⟨A326, c327, hv328⟩ := hs.matRow (i := 4) rfl hi325q
            refine sY hf hs rfl rfl rfl (Y_index rfl rfl rfl el22 ti23 (Rd.isAt (hs.rdV (i := 4) rfl) hv328) hi325a (ltn hn322 hi325b)) ?_; clear hf; intro a hf
            refine sY hf hs rfl rfl rfl (Y_load_rd rfl rfl (fun w hs => hs.rdV (i := 4) rfl) (at1 hv328) ag23) ?_; clear hf; intro a hf
            refine sY hf hs rfl rfl rfl (Y_assign rfl rfl) ?_; clear hf; intro a hf
            refine wpO_nil ?_
            refine wpL_seq ?_
            refine wpL_region ?_
            refine sY hf hs rfl rfl rfl (Y_fieldAddr rfl rfl fo27_2) ?_; clear hf; intro a hf
            refine sY hf hs rfl rfl rfl (Y_load_blk rfl rfl (i := 0) rfl rfl ag23) ?_; clear hf; intro a hf
            refine sY hf hs rfl rfl rfl (Y_move rfl rfl) ?_; clear hf; intro a hf
            obtain ⟨r329, hc330, hm266⟩ := bind_some hm266
            refine sCall hf rfl rfl rfl rfl (cap := []) rfl rfl en73 (spec_l24Dot_ok F p0_s.C A_p0_s_3 p0_s.C.length c_p0_s_3 rfl q324 A326 q324.length c327 rfl _ _ hc330 (h_p0_s_3.at hs) (hs.rdRow (i := 4) rfl ⟨hi325q, hv328⟩)) ?_; clear hf
            rintro _ w ⟨rfl, hs1⟩ a hf
            have hs : St [] W w [.blk b1 27 [.slice A_p0_s_1 p0_s.A.length c_p0_s_1, .slice A_p0_s_2 p0_s.B.length c_p0_s_2, .slice A_p0_s_3 p0_s.C.length c_p0_s_3], .row A173 n174 c175 2 1 (ints xs172), .mat A313 1 1 23 2 ([Value.slice A287 r285.length c289]) ([r285]), .mat A315 1 1 23 2 ([Value.slice A293 r291.length c295]) ([r291]), .mat A319 n320 c321 23 2 vs323 r317] := hs.ext hs1.below
            clear hs1
            refine sY hf hs rfl rfl rfl (Y_assign rfl rfl) ?_; clear hf; intro a hf
            refine wpO_nil ?_
            refine wpL_seq ?_
            refine wpL_seq ?_
            refine wpL_region ?_
            refine sY hf hs rfl rfl rfl (Y_move rfl rfl) ?_; clear hf; intro a hf
            obtain ⟨r331, hc332, hm266⟩ := bind_some hm266
            refine sCall hf rfl rfl rfl rfl (cap := []) rfl rfl en77 (spec_IsValue_ok F r329 _ _ hc332) ?_; clear hf
            rintro _ w ⟨rfl, hs1⟩ a hf
            have hs : St [] W w [.blk b1 27 [.slice A_p0_s_1 p0_s.A.length c_p0_s_1, .slice A_p0_s_2 p0_s.B.length c_p0_s_2, .slice A_p0_s_3 p0_s.C.length c_p0_s_3], .row A173 n174 c175 2 1 (ints xs172), .mat A313 1 1 23 2 ([Value.slice A287 r285.length c289]) ([r285]), .mat A315 1 1 23 2 ([Value.slice A293 r291.length c295]) ([r291]), .mat A319 n320 c321 23 2 vs323 r317] := hs.ext hs1.below
            clear hs1
            refine sY hf hs rfl rfl rfl (Y_not rfl rfl) ?_; clear hf; intro a hf
            refine wpO_nil ?_
            refine wpL_cond hf rfl (fun hb333 => ?_) (fun hb333 => ?_)
            · have hm266 := bif_t hm266 hb333
              refine wpL_seq ?_
              refine wpL_region ?_
              refine sY hf hs rfl rfl rfl (Y_assign rfl rfl) ?_; clear hf; intro a hf
              refine sY hf hs rfl rfl rfl (Y_assign rfl rfl) ?_; clear hf; intro a hf
              refine sY hf hs rfl rfl rfl (Y_assign rfl rfl) ?_; clear hf; intro a hf
              refine wpO_nil ?_
              have hs : St [] W _ [.blk b1 27 [.slice A_p0_s_1 p0_s.A.length c_p0_s_1, .slice A_p0_s_2 p0_s.B.length c_p0_s_2, .slice A_p0_s_3 p0_s.C.length c_p0_s_3], .row A173 n174 c175 2 1 (ints xs172), .mat A313 1 1 23 2 ([Value.slice A287 r285.length c289]) ([r285]), .mat A315 1 1 23 2 ([Value.slice A293 r291.length c295]) ([r291]), .mat A319 n320 c321 23 2 vs323 r317, .row none 0 0 2 1 (ints ([] : List Int))] := hs.addNil 2 1
              have hs : St [] W _ [.blk b1 27 [.slice A_p0_s_1 p0_s.A.length c_p0_s_1, .slice A_p0_s_2 p0_s.B.length c_p0_s_2, .slice A_p0_s_3 p0_s.C.length c_p0_s_3], .row A173 n174 c175 2 1 (ints xs172), .mat A313 1 1 23 2 ([Value.slice A287 r285.length c289]) ([r285]), .mat A315 1 1 23 2 ([Value.slice A293 r291.length c295]) ([r291]), .mat A319 n320 c321 23 2 vs323 r317, .row none 0 0 2 1 (ints ([] : List Int)), .row none 0 0 2 1 (ints ([] : List Int))] := hs.addNil 2 1
              obtain rfl := Option.some.inj hm266
              try dsimp only at hm
              obtain rfl := Option.some.inj hm
              refine wpL_ret (Qb_ret (Ql_ret (Qb_ret (ret_tmp3 rfl hf rfl rfl rfl ?_))))
              exact ⟨_, rfl, none, 0, 0, none, 0, 0, none, 0, 0, ([] : List Int), rfl, rfl, rfl, .inr ⟨rfl, rfl, rfl, rfl⟩, hs.sel [5, 6] (by decide)⟩
            · have hm266 := bif_f hm266 hb333
              refine wpL_skip ?_
              refine wpL_region ?_
              refine sY hf hs rfl rfl rfl (Y_move rfl rfl) ?_; clear hf; intro a hf
              refine sY hf hs rfl rfl rfl (Y_move rfl rfl) ?_; clear hf; intro a hf
              refine sBuildSlice (parts := [(0, .tmp 55)]) (vs := [.int .i64 r329]) (cells := [.int .i64 r329]) hf hs rfl rfl rfl rfl rfl el23 ti2 rfl rfl rfl rfl ?_; clear hf hs; intro a w A336 hs hA337 hf
              have hs : St [] W w [.blk b1 27 [.slice A_p0_s_1 p0_s.A.length c_p0_s_1, .slice A_p0_s_2 p0_s.B.length c_p0_s_2, .slice A_p0_s_3 p0_s.C.length c_p0_s_3], .row A173 n174 c175 2 1 (ints xs172), .mat A313 1 1 23 2 ([Value.slice A287 r285.length c289]) ([r285]), .mat A315 1 1 23 2 ([Value.slice A293 r291.length c295]) ([r291]), .mat A319 n320 c321 23 2 vs323 r317, .row A336 1 1 2 1 (ints ([r329]))] := hs
              obtain ⟨xs340, ha341, hm266⟩ := bind_some hm266
              refine sAppendL (i := 1) (xs := xs172) (ys := [r329]) (enc := ints) hf hs rfl rfl rfl rfl rfl rfl hn176 rfl rfl ha341 el23 ti2 rfl rfl rfl (hs.rd (i := 5) rfl) (Nat.succ_pos _) ints_len1 ints_append ints_one ?_; clear hf hs; intro a w A338 c339 hs hf
              have hs : St [] W w [.blk b1 27 [.slice A_p0_s_1 p0_s.A.length c_p0_s_1, .slice A_p0_s_2 p0_s.B.length c_p0_s_2, .slice A_p0_s_3 p0_s.C.length c_p0_s_3], .row A338 xs340.length c339 2 1 (ints xs340), .mat A313 1 1 23 2 ([Value.slice A287 r285.length c289]) ([r285]), .mat A315 1 1 23 2 ([Value.slice A293 r291.length c295]) ([r291]), .mat A319 n320 c321 23 2 vs323 r317, .row A336 1 1 2 1 (ints ([r329]))] := hs
              refine sY hf hs rfl rfl rfl (Y_assign rfl rfl) ?_; clear hf; intro a hf
              refine wpO_nil ?_
              refine wpL_nil (Qb_normal ?_)
              refine wpL_region ?_
              refine sY hf hs rfl rfl rfl (Y_move rfl rfl) ?_; clear hf; intro a hf
              refine sY hf hs rfl rfl rfl (Y_add rfl rfl rfl) ?_; clear hf; intro a hf
              refine sY hf hs rfl rfl rfl (Y_assign rfl rfl) ?_; clear hf; intro a hf
              refine wpO_nil ?_
              have hs := hs.takeRow (i := 4) rfl ⟨hi325q, hv328⟩
              have hs : St [] W _ [.blk b1 27 [.slice A_p0_s_1 p0_s.A.length c_p0_s_1, .slice A_p0_s_2 p0_s.B.length c_p0_s_2, .slice A_p0_s_3 p0_s.C.length c_p0_s_3], .row A338 xs340.length c339 2 1 (ints xs340), .mat A313 1 1 23 2 ([Value.slice A287 r285.length c289]) ([r285]), .mat A315 1 1 23 2 ([Value.slice A293 r291.length c295]) ([r291]), .row A326 q324.length c327 2 1 (ints q324), .row A336 1 1 2 1 (ints ([r329]))] := hs
              refine wpL_nil (Ql_normal ?_)
              exact ⟨q324, xs340, (IntKind.i64.wrap (x177 + 1)), A326, q324.length, c327, A326, q324.length, c327, q324, A338, xs340.length, c339, hm266, rfl, (.inr ⟨rfl, rfl, rfl, rfl⟩), rfl, (FrD.pick (FrD.pick (FrD.pick (FrD.pick (FrD.pick hf.none hf rfl) hf rfl) hf rfl) hf rfl) hf rfl), hs.sel [0, 1, 4] (by decide)⟩
      · have hm266 := bif_f hm266 hb268
        refine wpL_exit (Ql_exit (Qb_exit ?_))
        exact ⟨xs161, xs172, A162, n163, c164, A165, n166, c167, ys168, A173, n174, c175, Option.some.inj hm266, hn170, hg169, hn176, (FrD.pick (FrD.pick hf.none hf rfl) hf rfl), hs.sel [1, 2] (by decide)⟩
  · rintro a w ⟨xs248, xs259, A249, n250, c251, A252, n253, c254, ys255, A260, n261, c262, hr_, hn257, hg256, hn263, hf, hs⟩
    subst hr_
    try dsimp only at hm
    refine wpL_seq ?_
    refine wpL_region ?_
    refine sY hf hs rfl rfl rfl (Y_move rfl rfl) ?_; clear hf; intro a hf
    refine sY hf hs rfl rfl rfl (Y_move rfl rfl) ?_; clear hf; intro a hf
    refine sY hf hs rfl rfl rfl (Y_assign rfl rfl) ?_; clear hf; intro a hf
    refine sY hf hs rfl rfl rfl (Y_assign rfl rfl) ?_; clear hf; intro a hf
    refine sY hf hs rfl rfl rfl (Y_assign rfl rfl) ?_; clear hf; intro a hf
    refine wpO_nil ?_
    obtain rfl := Option.some.inj hm
    refine wpL_ret (ret_tmp3 rfl hf rfl rfl rfl ?_)
    exact ⟨_, rfl, A260, n261, c262, A249, n250, c251, A252, n253, c254, ys255, rfl, hn263, hn257, hg256, hs⟩

set_option maxRecDepth 100000 in
theorem spec_OutputsOf_ok (F : Nat) (p0_s : GSystem) (A_p0_s_1 : Option Addr) (n_p0_s_1 c_p0_s_1 : Nat) (hn_p0_s_1 : n_p0_s_1 = p0_s.A.length) (A_p0_s_2 : Option Addr) (n_p0_s_2 c_p0_s_2 : Nat) (hn_p0_s_2 : n_p0_s_2 = p0_s.B.length) (A_p0_s_3 : Option Addr) (n_p0_s_3 c_p0_s_3 : Nat) (hn_p0_s_3 : n_p0_s_3 = p0_s.C.length) (p1_x : List Int) (A_p1_x_1 : Option Addr) (n_p1_x_1 c_p1_x_1 : Nat) (hn_p1_x_1 : n_p1_x_1 = p1_x.length) (p2_inputs : List Int) (A_p2_inputs_1 : Option Addr) (n_p2_inputs_1 c_p2_inputs_1 : Nat) (hn_p2_inputs_1 : n_p2_inputs_1 = p2_inputs.length) (r : List Int × Int) (W : World) (hm : spec_OutputsOf F p0_s p1_x p2_inputs = some r) (h_p0_s_1 : RdM W A_p0_s_1 p0_s.A) (h_p0_s_2 : Rd W A_p0_s_2 (ints p0_s.B)) (h_p0_s_3 : Rd W A_p0_s_3 (ints p0_s.C)) (h_p1_x_1 : Rd W A_p1_x_1 (ints p1_x)) (h_p2_inputs_1 : Rd W A_p2_inputs_1 (ints p2_inputs)) :
    Calls Try.prog 25 [.agg #[.slice A_p0_s_1 n_p0_s_1 c_p0_s_1, .slice A_p0_s_2 n_p0_s_2 c_p0_s_2, .slice A_p0_s_3 n_p0_s_3 c_p0_s_3], .slice A_p1_x_1 n_p1_x_1 c_p1_x_1, .slice A_p2_inputs_1 n_p2_inputs_1 c_p2_inputs_1].toArray W fun e w' => ∃ v, e = .returned v ∧ ∃ A23, ∃ n24, ∃ c25, v = .tuple #[.slice A23 n24 c25, .int .i64 r.2] ∧ n24 = r.1.length ∧ St [] W w' [.row A23 n24 c25 2 1 (ints r.1)] := by
  subst hn_p0_s_1
  subst hn_p0_s_2
  subst hn_p0_s_3
  subst hn_p1_x_1
  subst hn_p2_inputs_1
  unfold spec_OutputsOf at hm
  refine Calls.enter (N := 30) Try.func25 rfl rfl rfl (fun a hf => ?_)
  have hs := St.start W
  obtain ⟨w, hw_⟩ : ∃ w, w = W := ⟨W, rfl⟩
  clear hw_ w
  refine wpL_seq ?_
  refine wpL_region ?_
  refine sBox hf hs rfl rfl rfl rfl rfl (cs := [.slice A_p0_s_1 p0_s.A.length c_p0_s_1, .slice A_p0_s_2 p0_s.B.length c_p0_s_2, .slice A_p0_s_3 p0_s.C.length c_p0_s_3]) rfl ?_; clear hf hs; intro a w b1 hs hf
  have hs : St [] W w [.blk b1 27 [.slice A_p0_s_1 p0_s.A.length c_p0_s_1, .slice A_p0_s_2 p0_s.B.length c_p0_s_2, .slice A_p0_s_3 p0_s.C.length c_p0_s_3]] := hs
  refine sY hf hs rfl rfl rfl (Y_assign rfl rfl) ?_; clear hf; intro a hf
  refine sY hf hs rfl rfl rfl (Y_assign rfl rfl) ?_; clear hf; intro a hf
  refine wpO_nil ?_
  refine wpL_seq ?_
  refine wpL_region ?_
  refine sY hf hs rfl rfl rfl (Y_load_blkS rfl rfl (i := 0) rfl ag27 ti27 rfl) ?_; clear hf; intro a hf
  refine sY hf hs rfl rfl rfl (Y_move rfl rfl) ?_; clear hf; intro a hf
  refine sY hf hs rfl rfl rfl (Y_move rfl rfl) ?_; clear hf; intro a hf
  obtain ⟨r2, hc3, hm⟩ := bind_some hm
  refine sCall hf rfl rfl rfl rfl (cap := []) rfl rfl en112 (spec_l24Code_ok F p0_s A_p0_s_1 p0_s.A.length c_p0_s_1 rfl A_p0_s_2 p0_s.B.length c_p0_s_2 rfl A_p0_s_3 p0_s.C.length c_p0_s_3 rfl p1_x A_p1_x_1 p1_x.length c_p1_x_1 rfl p2_inputs A_p2_inputs_1 p2_inputs.length c_p2_inputs_1 rfl _ _ hc3 (h_p0_s_1.at hs) (h_p0_s_2.at hs) (h_p0_s_3.at hs) (h_p1_x_1.at hs) (h_p2_inputs_1.at hs)) ?_; clear hf
  rintro _ w ⟨rfl, hs1⟩ a hf
  have hs : St [] W w [.blk b1 27 [.slice A_p0_s_1 p0_s.A.length c_p0_s_1, .slice A_p0_s_2 p0_s.B.length c_p0_s_2, .slice A_p0_s_3 p0_s.C.length c_p0_s_3]] := hs.ext hs1.below
  clear hs1
  refine sY hf hs rfl rfl rfl (Y_assign rfl rfl) ?_; clear hf; intro a hf
  refine wpO_nil ?_
  refine wpL_seq ?_
  refine wpL_seq ?_
  refine wpL_region ?_
  refine sY hf hs rfl rfl rfl (Y_move rfl rfl) ?_; clear hf; intro a hf
  refine sY hf hs rfl rfl rfl (Y_neq rfl rfl rfl) ?_; clear hf; intro a hf
  refine wpO_nil ?_
  refine wpL_cond hf rfl (fun hb4 => ?_) (fun hb4 => ?_)
  · have hm := bif_t hm hb4
    refine wpL_seq ?_
    refine wpL_region ?_
    refine sY hf hs rfl rfl rfl (Y_move rfl rfl) ?_; clear hf; intro a hf
    refine sY hf hs rfl rfl rfl (Y_assign rfl rfl) ?_; clear hf; intro a hf
    refine sY hf hs rfl rfl rfl (Y_assign rfl rfl) ?_; clear hf; intro a hf
    refine wpO_nil ?_
    have hs : St [] W _ [.blk b1 27 [.slice A_p0_s_1 p0_s.A.length c_p0_s_1, .slice A_p0_s_2 p0_s.B.length c_p0_s_2, .slice A_p0_s_3 p0_s.C.length c_p0_s_3], .row none 0 0 2 1 (ints ([] : List Int))] := hs.addNil 2 1
    obtain rfl := Option.some.inj hm
    refine wpL_ret (ret_tmp2 rfl hf rfl rfl ?_)
    exact ⟨_, rfl, none, 0, 0, rfl, rfl, hs.sel [1] (by decide)⟩
  · have hm := bif_f hm hb4
    refine wpL_skip ?_
    refine wpL_seq ?_
    refine wpL_region ?_
    refine sY hf hs rfl rfl rfl (Y_load_blkS rfl rfl (i := 0) rfl ag27 ti27 rfl) ?_; clear hf; intro a hf
    refine sY hf hs rfl rfl rfl (Y_move rfl rfl) ?_; clear hf; intro a hf
    refine sY hf hs rfl rfl rfl (Y_move rfl rfl) ?_; clear hf; intro a hf
    obtain ⟨r6, hc7, hm⟩ := bind_some hm
    refine sCall hf rfl rfl rfl rfl (cap := []) rfl rfl en113 (spec_l24Run_ok F p0_s A_p0_s_1 p0_s.A.length c_p0_s_1 rfl A_p0_s_2 p0_s.B.length c_p0_s_2 rfl A_p0_s_3 p0_s.C.length c_p0_s_3 rfl p1_x A_p1_x_1 p1_x.length c_p1_x_1 rfl p2_inputs A_p2_inputs_1 p2_inputs.length c_p2_inputs_1 rfl _ _ hc7 (h_p0_s_1.at hs) (h_p0_s_2.at hs) (h_p0_s_3.at hs) (h_p1_x_1.at hs) (h_p2_inputs_1.at hs)) ?_; clear hf
    rintro _ w ⟨A8, n9, c10, A12, n13, c14, A15, n16, c17, ys18, rfl, hn11, hn19, he20, hs1⟩ a hf
    have hs : St [] W w [.blk b1 27 [.slice A_p0_s_1 p0_s.A.length c_p0_s_1, .slice A_p0_s_2 p0_s.B.length c_p0_s_2, .slice A_p0_s_3 p0_s.C.length c_p0_s_3], .row A8 n9 c10 2 1 (ints r6.1), .row A15 n16 c17 2 1 (ints ys18)] := hs.join hs1
    clear hs1
    refine sY hf hs rfl rfl rfl (Y_move rfl rfl) ?_; clear hf; intro a hf
    refine sY hf hs rfl rfl rfl (Y_extract rfl rfl rfl) ?_; clear hf; intro a hf
    refine sY hf hs rfl rfl rfl (Y_extract rfl rfl rfl) ?_; clear hf; intro a hf
    refine sY hf hs rfl rfl rfl (Y_extract rfl rfl rfl) ?_; clear hf; intro a hf
    refine sY hf hs rfl rfl rfl (Y_assign rfl rfl) ?_; clear hf; intro a hf
    refine sY hf hs rfl rfl rfl (Y_assign rfl rfl) ?_; clear hf; intro a hf
    refine sY hf hs rfl rfl rfl (Y_assign rfl rfl) ?_; clear hf; intro a hf
    refine wpO_nil ?_
    refine wpL_seq ?_
    refine wpL_seq ?_
    refine wpL_region ?_
    refine sY hf hs rfl rfl rfl (Y_move rfl rfl) ?_; clear hf; intro a hf
    refine sY hf hs rfl rfl rfl (Y_not rfl rfl) ?_; clear hf; intro a hf
    refine wpO_nil ?_
    refine wpL_cond hf rfl (fun hb21 => ?_) (fun hb21 => ?_)
    · have hm := bif_t hm hb21
      refine wpL_seq ?_
      refine wpL_region ?_
      refine sY hf hs rfl rfl rfl (Y_assign rfl rfl) ?_; clear hf; intro a hf
      refine sY hf hs rfl rfl rfl (Y_assign rfl rfl) ?_; clear hf; intro a hf
      refine wpO_nil ?_
      have hs : St [] W _ [.blk b1 27 [.slice A_p0_s_1 p0_s.A.length c_p0_s_1, .slice A_p0_s_2 p0_s.B.length c_p0_s_2, .slice A_p0_s_3 p0_s.C.length c_p0_s_3], .row A8 n9 c10 2 1 (ints r6.1), .row A15 n16 c17 2 1 (ints ys18), .row none 0 0 2 1 (ints ([] : List Int))] := hs.addNil 2 1
      obtain rfl := Option.some.inj hm
      refine wpL_ret (ret_tmp2 rfl hf rfl rfl ?_)
      exact ⟨_, rfl, none, 0, 0, rfl, rfl, hs.sel [3] (by decide)⟩
    · have hm := bif_f hm hb21
      refine wpL_skip ?_
      refine wpL_seq ?_
      refine wpL_region ?_
      refine sY hf hs rfl rfl rfl (Y_move rfl rfl) ?_; clear hf; intro a hf
      refine sY hf hs rfl rfl rfl (Y_assign rfl rfl) ?_; clear hf; intro a hf
      refine sY hf hs rfl rfl rfl (Y_assign rfl rfl) ?_; clear hf; intro a hf
      refine wpO_nil ?_
      obtain rfl := Option.some.inj hm
      refine wpL_ret (ret_tmp2 rfl hf rfl rfl ?_)
      exact ⟨_, rfl, A8, n9, c10, rfl, hn11, hs.sel [1] (by decide)⟩

set_option maxRecDepth 100000 in
theorem impl_StateAfter_ok (F : Nat) (p0_s : GSystem) (A_p0_s_1 : Option Addr) (n_p0_s_1 c_p0_s_1 : Nat) (hn_p0_s_1 : n_p0_s_1 = p0_s.A.length) (A_p0_s_2 : Option Addr) (n_p0_s_2 c_p0_s_2 : Nat) (hn_p0_s_2 : n_p0_s_2 = p0_s.B.length) (A_p0_s_3 : Option Addr) (n_p0_s_3 c_p0_s_3 : Nat) (hn_p0_s_3 : n_p0_s_3 = p0_s.C.length) (p1_x : List Int) (A_p1_x_1 : Option Addr) (n_p1_x_1 c_p1_x_1 : Nat) (hn_p1_x_1 : n_p1_x_1 = p1_x.length) (p2_inputs : List Int) (A_p2_inputs_1 : Option Addr) (n_p2_inputs_1 c_p2_inputs_1 : Nat) (hn_p2_inputs_1 : n_p2_inputs_1 = p2_inputs.length) (r : List Int × Int) (W : World) (hm : impl_StateAfter F p0_s p1_x p2_inputs = some r) (h_p0_s_1 : RdM W A_p0_s_1 p0_s.A) (h_p0_s_2 : Rd W A_p0_s_2 (ints p0_s.B)) (h_p0_s_3 : Rd W A_p0_s_3 (ints p0_s.C)) (h_p1_x_1 : Rd W A_p1_x_1 (ints p1_x)) (h_p2_inputs_1 : Rd W A_p2_inputs_1 (ints p2_inputs)) :
    Calls Try.prog 26 [.agg #[.slice A_p0_s_1 n_p0_s_1 c_p0_s_1, .slice A_p0_s_2 n_p0_s_2 c_p0_s_2, .slice A_p0_s_3 n_p0_s_3 c_p0_s_3], .slice A_p1_x_1 n_p1_x_1 c_p1_x_1, .slice A_p2_inputs_1 n_p2_inputs_1 c_p2_inputs_1].toArray W fun e w' => ∃ v, e = .returned v ∧ ∃ A16, ∃ n17, ∃ c18, v = .tuple #[.slice A16 n17 c18, .int .i64 r.2] ∧ n17 = r.1.length ∧ St [] W w' [.row A16 n17 c18 2 1 (ints r.1)] := by
  subst hn_p0_s_1
  subst hn_p0_s_2
  subst hn_p0_s_3
  subst hn_p1_x_1
  subst hn_p2_inputs_1
  unfold impl_StateAfter at hm
  refine Calls.enter (N := 29) Try.func26 rfl rfl rfl (fun a hf => ?_)
  have hs := St.start W
  obtain ⟨w, hw_⟩ : ∃ w, w = W := ⟨W, rfl⟩
  clear hw_ w
  refine wpL_seq ?_
  refine wpL_region ?_
  refine sBox hf hs rfl rfl rfl rfl rfl (cs := [.slice A_p0_s_1 p0_s.A.length c_p0_s_1, .slice A_p0_s_2 p0_s.B.length c_p0_s_2, .slice A_p0_s_3 p0_s.C.length c_p0_s_3]) rfl ?_; clear hf hs; intro a w b1 hs hf
  have hs : St [] W w [.blk b1 27 [.slice A_p0_s_1 p0_s.A.length c_p0_s_1, .slice A_p0_s_2 p0_s.B.length c_p0_s_2, .slice A_p0_s_3 p0_s.C.length c_p0_s_3]] := hs
  refine sY hf hs rfl rfl rfl (Y_assign rfl rfl) ?_; clear hf; intro a hf
  refine sY hf hs rfl rfl rfl (Y_assign rfl rfl) ?_; clear hf; intro a hf
  refine wpO_nil ?_
  refine wpL_seq ?_
  refine wpL_seq ?_
  refine wpL_region ?_
  refine sY hf hs rfl rfl rfl (Y_load_blkS rfl rfl (i := 0) rfl ag27 ti27 rfl) ?_; clear hf; intro a hf
  refine sY hf hs rfl rfl rfl (Y_move rfl rfl) ?_; clear hf; intro a hf
  refine sY hf hs rfl rfl rfl (Y_move rfl rfl) ?_; clear hf; intro a hf
  obtain ⟨r2, hc3, hm⟩ := bind_some hm
  refine sCall hf rfl rfl rfl rfl (cap := []) rfl rfl en110 (impl_checkSystem_ok F p0_s A_p0_s_1 p0_s.A.length c_p0_s_1 rfl A_p0_s_2 p0_s.B.length c_p0_s_2 rfl A_p0_s_3 p0_s.C.length c_p0_s_3 rfl p1_x A_p1_x_1 p1_x.length c_p1_x_1 rfl p2_inputs A_p2_inputs_1 p2_inputs.length c_p2_inputs_1 rfl _ _ hc3 (h_p0_s_1.at hs) (h_p0_s_2.at hs) (h_p0_s_3.at hs) (h_p1_x_1.at hs) (h_p2_inputs_1.at hs)) ?_; clear hf
  rintro _ w ⟨rfl, hs1⟩ a hf
  have hs : St [] W w [.blk b1 27 [.slice A_p0_s_1 p0_s.A.length c_p0_s_1, .slice A_p0_s_2 p0_s.B.length c_p0_s_2, .slice A_p0_s_3 p0_s.C.length c_p0_s_3]] := hs.ext hs1.below
  clear hs1
  refine sY hf hs rfl rfl rfl (Y_assign rfl rfl) ?_; clear hf; intro a hf
  refine wpO_nil ?_
  refine wpL_seq ?_
  refine wpL_region ?_
  refine sY hf hs rfl rfl rfl (Y_move rfl rfl) ?_; clear hf; intro a hf
  refine sY hf hs rfl rfl rfl (Y_neq rfl rfl rfl) ?_; clear hf; intro a hf
  refine wpO_nil ?_
  refine wpL_cond hf rfl (fun hb4 => ?_) (fun hb4 => ?_)
  · have hm := bif_t hm hb4
    refine wpL_seq ?_
    refine wpL_region ?_
    refine sY hf hs rfl rfl rfl (Y_move rfl rfl) ?_; clear hf; intro a hf
    refine sY hf hs rfl rfl rfl (Y_assign rfl rfl) ?_; clear hf; intro a hf
    refine sY hf hs rfl rfl rfl (Y_assign rfl rfl) ?_; clear hf; intro a hf
    refine wpO_nil ?_
    have hs : St [] W _ [.blk b1 27 [.slice A_p0_s_1 p0_s.A.length c_p0_s_1, .slice A_p0_s_2 p0_s.B.length c_p0_s_2, .slice A_p0_s_3 p0_s.C.length c_p0_s_3], .row none 0 0 2 1 (ints ([] : List Int))] := hs.addNil 2 1
    obtain rfl := Option.some.inj hm
    refine wpL_ret (ret_tmp2 rfl hf rfl rfl ?_)
    exact ⟨_, rfl, none, 0, 0, rfl, rfl, hs.sel [1] (by decide)⟩
  · have hm := bif_f hm hb4
    refine wpL_skip ?_
    refine wpL_seq ?_
    refine wpL_region ?_
    refine sY hf hs rfl rfl rfl (Y_load_blkS rfl rfl (i := 0) rfl ag27 ti27 rfl) ?_; clear hf; intro a hf
    refine sY hf hs rfl rfl rfl (Y_move rfl rfl) ?_; clear hf; intro a hf
    refine sY hf hs rfl rfl rfl (Y_move rfl rfl) ?_; clear hf; intro a hf
    obtain ⟨r6, hc7, hm⟩ := bind_some hm
    refine sCall hf rfl rfl rfl rfl (cap := []) rfl rfl en111 (impl_runSystem_ok F p0_s A_p0_s_1 p0_s.A.length c_p0_s_1 rfl A_p0_s_2 p0_s.B.length c_p0_s_2 rfl A_p0_s_3 p0_s.C.length c_p0_s_3 rfl p1_x A_p1_x_1 p1_x.length c_p1_x_1 rfl p2_inputs A_p2_inputs_1 p2_inputs.length c_p2_inputs_1 rfl _ _ hc7 (h_p0_s_1.at hs) (h_p0_s_2.at hs) (h_p0_s_3.at hs) (h_p1_x_1.at hs) (h_p2_inputs_1.at hs)) ?_; clear hf
    rintro _ w ⟨A8, n9, c10, A12, n13, c14, rfl, hn11, hn15, hs1⟩ a hf
    have hs : St [] W w [.blk b1 27 [.slice A_p0_s_1 p0_s.A.length c_p0_s_1, .slice A_p0_s_2 p0_s.B.length c_p0_s_2, .slice A_p0_s_3 p0_s.C.length c_p0_s_3], .row A8 n9 c10 2 1 (ints r6.1), .row A12 n13 c14 2 1 (ints r6.2.1)] := hs.join hs1
    clear hs1
    refine sY hf hs rfl rfl rfl (Y_move rfl rfl) ?_; clear hf; intro a hf
    refine sY hf hs rfl rfl rfl (Y_extract rfl rfl rfl) ?_; clear hf; intro a hf
    refine sY hf hs rfl rfl rfl (Y_extract rfl rfl rfl) ?_; clear hf; intro a hf
    refine sY hf hs rfl rfl rfl (Y_extract rfl rfl rfl) ?_; clear hf; intro a hf
    refine sY hf hs rfl rfl rfl (Y_assign rfl rfl) ?_; clear hf; intro a hf
    refine sY hf hs rfl rfl rfl (Y_assign rfl rfl) ?_; clear hf; intro a hf
    refine sY hf hs rfl rfl rfl (Y_assign rfl rfl) ?_; clear hf; intro a hf
    refine wpO_nil ?_
    refine wpL_seq ?_
    refine wpL_region ?_
    refine sY hf hs rfl rfl rfl (Y_move rfl rfl) ?_; clear hf; intro a hf
    refine sY hf hs rfl rfl rfl (Y_move rfl rfl) ?_; clear hf; intro a hf
    refine sY hf hs rfl rfl rfl (Y_assign rfl rfl) ?_; clear hf; intro a hf
    refine sY hf hs rfl rfl rfl (Y_assign rfl rfl) ?_; clear hf; intro a hf
    refine wpO_nil ?_
    obtain rfl := Option.some.inj hm
    refine wpL_ret (ret_tmp2 rfl hf rfl rfl ?_)
    exact ⟨_, rfl, A12, n13, c14, rfl, hn15, hs.sel [2] (by decide)⟩

set_option maxRecDepth 100000 in
theorem spec_StateAfter_ok (F : Nat) (p0_s : GSystem) (A_p0_s_1 : Option Addr) (n_p0_s_1 c_p0_s_1 : Nat) (hn_p0_s_1 : n_p0_s_1 = p0_s.A.length) (A_p0_s_2 : Option Addr) (n_p0_s_2 c_p0_s_2 : Nat) (hn_p0_s_2 : n_p0_s_2 = p0_s.B.length) (A_p0_s_3 : Option Addr) (n_p0_s_3 c_p0_s_3 : Nat) (hn_p0_s_3 : n_p0_s_3 = p0_s.C.length) (p1_x : List Int) (A_p1_x_1 : Option Addr) (n_p1_x_1 c_p1_x_1 : Nat) (hn_p1_x_1 : n_p1_x_1 = p1_x.length) (p2_inputs : List Int) (A_p2_inputs_1 : Option Addr) (n_p2_inputs_1 c_p2_inputs_1 : Nat) (hn_p2_inputs_1 : n_p2_inputs_1 = p2_inputs.length) (r : List Int × Int) (W : World) (hm : spec_StateAfter F p0_s p1_x p2_inputs = some r) (h_p0_s_1 : RdM W A_p0_s_1 p0_s.A) (h_p0_s_2 : Rd W A_p0_s_2 (ints p0_s.B)) (h_p0_s_3 : Rd W A_p0_s_3 (ints p0_s.C)) (h_p1_x_1 : Rd W A_p1_x_1 (ints p1_x)) (h_p2_inputs_1 : Rd W A_p2_inputs_1 (ints p2_inputs)) :
    Calls Try.prog 27 [.agg #[.slice A_p0_s_1 n_p0_s_1 c_p0_s_1, .slice A_p0_s_2 n_p0_s_2 c_p0_s_2, .slice A_p0_s_3 n_p0_s_3 c_p0_s_3], .slice A_p1_x_1 n_p1_x_1 c_p1_x_1, .slice A_p2_inputs_1 n_p2_inputs_1 c_p2_inputs_1].toArray W fun e w' => ∃ v, e = .returned v ∧ ∃ A29, ∃ n30, ∃ c31, v = .tuple #[.slice A29 n30 c31, .int .i64 r.2] ∧ n30 = r.1.length ∧ St [] W w' [.row A29 n30 c31 2 1 (ints r.1)] := by
  subst hn_p0_s_1
  subst hn_p0_s_2
  subst hn_p0_s_3
  subst hn_p1_x_1
  subst hn_p2_inputs_1
  unfold spec_StateAfter at hm
  refine Calls.enter (N := 31) Try.func27 rfl rfl rfl (fun a hf => ?_)
  have hs := St.start W
  obtain ⟨w, hw_⟩ : ∃ w, w = W := ⟨W, rfl⟩
  clear hw_ w
  refine wpL_seq ?_
  refine wpL_region ?_
  refine sBox hf hs rfl rfl rfl rfl rfl (cs := [.slice A_p0_s_1 p0_s.A.length c_p0_s_1, .slice A_p0_s_2 p0_s.B.length c_p0_s_2, .slice A_p0_s_3 p0_s.C.length c_p0_s_3]) rfl ?_; clear hf hs; intro a w b1 hs hf
  have hs : St [] W w [.blk b1 27 [.slice A_p0_s_1 p0_s.A.length c_p0_s_1, .slice A_p0_s_2 p0_s.B.length c_p0_s_2, .slice A_p0_s_3 p0_s.C.length c_p0_s_3]] := hs
  refine sY hf hs rfl rfl rfl (Y_assign rfl rfl) ?_; clear hf; intro a hf
  refine sY hf hs rfl rfl rfl (Y_assign rfl rfl) ?_; clear hf; intro a hf
  refine wpO_nil ?_
  refine wpL_seq ?_
  refine wpL_region ?_
  refine sY hf hs rfl rfl rfl (Y_load_blkS rfl rfl (i := 0) rfl ag27 ti27 rfl) ?_; clear hf; intro a hf
  refine sY hf hs rfl rfl rfl (Y_move rfl rfl) ?_; clear hf; intro a hf
  refine sY hf hs rfl rfl rfl (Y_move rfl rfl) ?_; clear hf; intro a hf
  obtain ⟨r2, hc3, hm⟩ := bind_some hm
  refine sCall hf rfl rfl rfl rfl (cap := []) rfl rfl en112 (spec_l24Code_ok F p0_s A_p0_s_1 p0_s.A.length c_p0_s_1 rfl A_p0_s_2 p0_s.B.length c_p0_s_2 rfl A_p0_s_3 p0_s.C.length c_p0_s_3 rfl p1_x A_p1_x_1 p1_x.length c_p1_x_1 rfl p2_inputs A_p2_inputs_1 p2_inputs.length c_p2_inputs_1 rfl _ _ hc3 (h_p0_s_1.at hs) (h_p0_s_2.at hs) (h_p0_s_3.at hs) (h_p1_x_1.at hs) (h_p2_inputs_1.at hs)) ?_; clear hf
  rintro _ w ⟨rfl, hs1⟩ a hf
  have hs : St [] W w [.blk b1 27 [.slice A_p0_s_1 p0_s.A.length c_p0_s_1, .slice A_p0_s_2 p0_s.B.length c_p0_s_2, .slice A_p0_s_3 p0_s.C.length c_p0_s_3]] := hs.ext hs1.below
  clear hs1
  refine sY hf hs rfl rfl rfl (Y_assign rfl rfl) ?_; clear hf; intro a hf
  refine wpO_nil ?_
  refine wpL_seq ?_
  refine wpL_seq ?_
  refine wpL_region ?_
  refine sY hf hs rfl rfl rfl (Y_move rfl rfl) ?_; clear hf; intro a hf
  refine sY hf hs rfl rfl rfl (Y_neq rfl rfl rfl) ?_; clear hf; intro a hf
  refine wpO_nil ?_
  refine wpL_cond hf rfl (fun hb4 => ?_) (fun hb4 => ?_)
  · have hm := bif_t hm hb4
    refine wpL_seq ?_
    refine wpL_region ?_
    refine sY hf hs rfl rfl rfl (Y_move rfl rfl) ?_; clear hf; intro a hf
    refine sY hf hs rfl rfl rfl (Y_assign rfl rfl) ?_; clear hf; intro a hf
    refine sY hf hs rfl rfl rfl (Y_assign rfl rfl) ?_; clear hf; intro a hf
    refine wpO_nil ?_
    have hs : St [] W _ [.blk b1 27 [.slice A_p0_s_1 p0_s.A.length c_p0_s_1, .slice A_p0_s_2 p0_s.B.length c_p0_s_2, .slice A_p0_s_3 p0_s.C.length c_p0_s_3], .row none 0 0 2 1 (ints ([] : List Int))] := hs.addNil 2 1
    obtain rfl := Option.some.inj hm
    refine wpL_ret (ret_tmp2 rfl hf rfl rfl ?_)
    exact ⟨_, rfl, none, 0, 0, rfl, rfl, hs.sel [1] (by decide)⟩
  · have hm := bif_f hm hb4
    refine wpL_skip ?_
    refine wpL_seq ?_
    refine wpL_region ?_
    refine sY hf hs rfl rfl rfl (Y_load_blkS rfl rfl (i := 0) rfl ag27 ti27 rfl) ?_; clear hf; intro a hf
    refine sY hf hs rfl rfl rfl (Y_move rfl rfl) ?_; clear hf; intro a hf
    refine sY hf hs rfl rfl rfl (Y_move rfl rfl) ?_; clear hf; intro a hf
    obtain ⟨r6, hc7, hm⟩ := bind_some hm
    refine sCall hf rfl rfl rfl rfl (cap := []) rfl rfl en113 (spec_l24Run_ok F p0_s A_p0_s_1 p0_s.A.length c_p0_s_1 rfl A_p0_s_2 p0_s.B.length c_p0_s_2 rfl A_p0_s_3 p0_s.C.length c_p0_s_3 rfl p1_x A_p1_x_1 p1_x.length c_p1_x_1 rfl p2_inputs A_p2_inputs_1 p2_inputs.length c_p2_inputs_1 rfl _ _ hc7 (h_p0_s_1.at hs) (h_p0_s_2.at hs) (h_p0_s_3.at hs) (h_p1_x_1.at hs) (h_p2_inputs_1.at hs)) ?_; clear hf
    rintro _ w ⟨A8, n9, c10, A12, n13, c14, A15, n16, c17, ys18, rfl, hn11, hn19, he20, hs1⟩ a hf
    have hs : St [] W w [.blk b1 27 [.slice A_p0_s_1 p0_s.A.length c_p0_s_1, .slice A_p0_s_2 p0_s.B.length c_p0_s_2, .slice A_p0_s_3 p0_s.C.length c_p0_s_3], .row A8 n9 c10 2 1 (ints r6.1), .row A15 n16 c17 2 1 (ints ys18)] := hs.join hs1
    clear hs1
    refine sY hf hs rfl rfl rfl (Y_move rfl rfl) ?_; clear hf; intro a hf
    refine sY hf hs rfl rfl rfl (Y_extract rfl rfl rfl) ?_; clear hf; intro a hf
    refine sY hf hs rfl rfl rfl (Y_extract rfl rfl rfl) ?_; clear hf; intro a hf
    refine sY hf hs rfl rfl rfl (Y_extract rfl rfl rfl) ?_; clear hf; intro a hf
    refine sY hf hs rfl rfl rfl (Y_assign rfl rfl) ?_; clear hf; intro a hf
    refine sY hf hs rfl rfl rfl (Y_assign rfl rfl) ?_; clear hf; intro a hf
    refine sY hf hs rfl rfl rfl (Y_assign rfl rfl) ?_; clear hf; intro a hf
    refine wpO_nil ?_
    refine wpL_seq ?_
    refine wpL_seq ?_
    refine wpL_region ?_
    refine sY hf hs rfl rfl rfl (Y_move rfl rfl) ?_; clear hf; intro a hf
    refine sY hf hs rfl rfl rfl (Y_not rfl rfl) ?_; clear hf; intro a hf
    refine wpO_nil ?_
    refine wpL_cond hf rfl (fun hb21 => ?_) (fun hb21 => ?_)
    · have hm := bif_t hm hb21
      refine wpL_seq ?_
      refine wpL_region ?_
      refine sY hf hs rfl rfl rfl (Y_assign rfl rfl) ?_; clear hf; intro a hf
      refine sY hf hs rfl rfl rfl (Y_assign rfl rfl) ?_; clear hf; intro a hf
      refine wpO_nil ?_
      have hs : St [] W _ [.blk b1 27 [.slice A_p0_s_1 p0_s.A.length c_p0_s_1, .slice A_p0_s_2 p0_s.B.length c_p0_s_2, .slice A_p0_s_3 p0_s.C.length c_p0_s_3], .row A8 n9 c10 2 1 (ints r6.1), .row A15 n16 c17 2 1 (ints ys18), .row none 0 0 2 1 (ints ([] : List Int))] := hs.addNil 2 1
      obtain rfl := Option.some.inj hm
      refine wpL_ret (ret_tmp2 rfl hf rfl rfl ?_)
      exact ⟨_, rfl, none, 0, 0, rfl, rfl, hs.sel [3] (by decide)⟩
    · have hm := bif_f hm hb21
      refine wpL_skip ?_
      refine wpL_seq ?_
      refine wpL_region ?_
      refine sY hf hs rfl rfl rfl (Y_move rfl rfl) ?_; clear hf; intro a hf
      obtain ⟨r23, hc24, hm⟩ := bind_some hm
      refine sCall hf rfl rfl rfl rfl (cap := []) rfl rfl en80 (spec_l01Own_ok F r6.2.1 A12 n13 c14 hn19 _ _ hc24 (rdEither (Ei.rd (enc := ints) h_p1_x_1 he20) hs (hs.rd (i := 2) rfl))) ?_; clear hf
      rintro _ w ⟨A25, n26, c27, rfl, hn28, hs1⟩ a hf
      have hs : St [] W w [.blk b1 27 [.slice A_p0_s_1 p0_s.A.length c_p0_s_1, .slice A_p0_s_2 p0_s.B.length c_p0_s_2, .slice A_p0_s_3 p0_s.C.length c_p0_s_3], .row A8 n9 c10 2 1 (ints r6.1), .row A15 n16 c17 2 1 (ints ys18), .row A25 n26 c27 2 1 (ints r23)] := hs.join hs1
      clear hs1
      refine sY hf hs rfl rfl rfl (Y_assign rfl rfl) ?_; clear hf; intro a hf
      refine sY hf hs rfl rfl rfl (Y_assign rfl rfl) ?_; clear hf; intro a hf
      refine wpO_nil ?_
      obtain rfl := Option.some.inj hm
      refine wpL_ret (ret_tmp2 rfl hf rfl rfl ?_)
      exact ⟨_, rfl, A25, n26, c27, rfl, hn28, hs.sel [3] (by decide)⟩

set_option maxRecDepth 100000 in
theorem spec_DrawResponseOf_ok (F : Nat) (p0_code : List Int) (A_p0_code_1 : Option Addr) (n_p0_code_1 c_p0_code_1 : Nat) (hn_p0_code_1 : n_p0_code_1 = p0_code.length) (r : GSystem × Int) (W : World) (hm : spec_DrawResponseOf F p0_code = some r) (h_p0_code_1 : Rd W A_p0_code_1 (bytes p0_code)) :
    Calls Try.prog 28 [.slice A_p0_code_1 n_p0_code_1 c_p0_code_1].toArray W fun e w' => ∃ v, e = .returned v ∧ ∃ A36, ∃ n37, ∃ c38, ∃ vs40, ∃ A41, ∃ n42, ∃ c43, ∃ A45, ∃ n46, ∃ c47, v = .tuple #[.agg #[.slice A36 n37 c38, .slice A41 n42 c43, .slice A45 n46 c47], .int .i64 r.2] ∧ n37 = r.1.A.length ∧ n42 = r.1.B.length ∧ n46 = r.1.C.length ∧ St [] W w' [.mat A36 n37 c38 23 2 vs40 r.1.A, .row A41 n42 c43 2 1 (ints r.1.B), .row A45 n46 c47 2 1 (ints r.1.C)] := by
  subst hn_p0_code_1
  unfold spec_DrawResponseOf at hm
  refine Calls.enter (N := 20) Try.func28 rfl rfl rfl (fun a hf => ?_)
  have hs := St.start W
  obtain ⟨w, hw_⟩ : ∃ w, w = W := ⟨W, rfl⟩
  clear hw_ w
  refine wpL_seq ?_
  refine wpL_region ?_
  refine sAlloc hf hs rfl rfl rfl rfl ti27 ?_; clear hf hs; intro a w b1 hs hf
  have hs : St [] W w [.blk b1 27 [.slice none 0 0, .slice none 0 0, .slice none 0 0]] := hs
  refine sY hf hs rfl rfl rfl (Y_assign rfl rfl) ?_; clear hf; intro a hf
  refine wpO_nil ?_
  refine wpL_seq ?_
  refine wpL_region ?_
  refine sY hf hs rfl rfl rfl (Y_move rfl rfl) ?_; clear hf; intro a hf
  obtain ⟨r2, hc3, hm⟩ := bind_some hm
  refine sCall hf rfl rfl rfl rfl (cap := []) rfl rfl en101 (spec_l01From_ok F p0_code A_p0_code_1 p0_code.length c_p0_code_1 rfl _ _ hc3 (h_p0_code_1.at hs)) ?_; clear hf
  rintro _ w ⟨b4, rfl, hs1⟩ a hf
  have hs : St [] W w [.blk b1 27 [.slice none 0 0, .slice none 0 0, .slice none 0 0], .blk b4 145 [.slice A_p0_code_1 p0_code.length c_p0_code_1, .int .i64 r2.1, .int .i64 r2.2]] := hs.join hs1
  clear hs1
  refine sY hf hs rfl rfl rfl (Y_assign rfl rfl) ?_; clear hf; intro a hf
  refine wpO_nil ?_
  refine wpL_seq ?_
  refine wpL_region ?_
  refine sY hf hs rfl rfl rfl (Y_move rfl rfl) ?_; clear hf; intro a hf
  obtain ⟨r5, hc6, hm⟩ := bind_some hm
  refine sCall hf rfl rfl rfl rfl (cap := []) rfl rfl en102 (spec_l24DrawSystem_ok F b4 p0_code A_p0_code_1 p0_code.length c_p0_code_1 rfl r2.1 r2.2 _ _ hc6 (h_p0_code_1.pass hs [1]) (hs.sel [1] (by decide)).rebase) ?_; clear hf
  rintro _ w ⟨A7, n8, c9, vs11, A12, n13, c14, A16, n17, c18, rfl, hn10, hn15, hn19, hs1⟩ a hf
  have hs : St [] W w [.blk b1 27 [.slice none 0 0, .slice none 0 0, .slice none 0 0], .mat A7 n8 c9 23 2 vs11 r5.1.A, .row A12 n13 c14 2 1 (ints r5.1.B), .row A16 n17 c18 2 1 (ints r5.1.C), .blk b4 145 [.slice A_p0_code_1 p0_code.length c_p0_code_1, .int .i64 r5.2.1, .int .i64 r5.2.2]] := St.mutTail (La := [.blk b1 27 [.slice none 0 0, .slice none 0 0, .slice none 0 0]]) (Lb := [.blk b4 145 [.slice A_p0_code_1 p0_code.length c_p0_code_1, .int .i64 r2.1, .int .i64 r2.2]]) (hs.sel [0, 1] (by decide)) hs1
  clear hs1
  refine sAlloc hf hs rfl rfl rfl rfl ti27 ?_; clear hf hs; intro a w b20 hs hf
  have hs : St [] W w [.blk b1 27 [.slice none 0 0, .slice none 0 0, .slice none 0 0], .mat A7 n8 c9 23 2 vs11 r5.1.A, .row A12 n13 c14 2 1 (ints r5.1.B), .row A16 n17 c18 2 1 (ints r5.1.C), .blk b4 145 [.slice A_p0_code_1 p0_code.length c_p0_code_1, .int .i64 r5.2.1, .int .i64 r5.2.2], .blk b20 27 [.slice none 0 0, .slice none 0 0, .slice none 0 0]] := hs
  refine sStore (i := 5) (us := [.slice A7 n8 c9, .slice A12 n13 c14, .slice A16 n17 c18]) hf hs rfl rfl rfl rfl rfl rfl ti27 rfl rfl rfl (Nat.le_of_ble_eq_true rfl) rfl ?_; clear hs; intro w hs
  have hs : St [] W w [.blk b1 27 [.slice none 0 0, .slice none 0 0, .slice none 0 0], .mat A7 n8 c9 23 2 vs11 r5.1.A, .row A12 n13 c14 2 1 (ints r5.1.B), .row A16 n17 c18 2 1 (ints r5.1.C), .blk b4 145 [.slice A_p0_code_1 p0_code.length c_p0_code_1, .int .i64 r5.2.1, .int .i64 r5.2.2], .blk b20 27 [.slice A7 n8 c9, .slice A12 n13 c14, .slice A16 n17 c18]] := hs
  refine wpO_nil ?_
  refine wpL_seq ?_
  refine wpL_seq ?_
  refine wpL_region ?_
  refine sY hf hs rfl rfl rfl (Y_move rfl rfl) ?_; clear hf; intro a hf
  obtain ⟨r21, hc22, hm⟩ := bind_some hm
  refine sCall hf rfl rfl rfl rfl (cap := []) rfl rfl en107 (spec_l01Next_ok F b4 p0_code A_p0_code_1 p0_code.length c_p0_code_1 rfl r5.2.1 r5.2.2 20 _ _ hc22 (h_p0_code_1.pass hs [4]) (hs.sel [4] (by decide)).rebase) ?_; clear hf
  rintro _ w ⟨rfl, hs1⟩ a hf
  have hs : St [] W w [.blk b1 27 [.slice none 0 0, .slice none 0 0, .slice none 0 0], .mat A7 n8 c9 23 2 vs11 r5.1.A, .row A12 n13 c14 2 1 (ints r5.1.B), .row A16 n17 c18 2 1 (ints r5.1.C), .blk b20 27 [.slice A7 n8 c9, .slice A12 n13 c14, .slice A16 n17 c18], .blk b4 145 [.slice A_p0_code_1 p0_code.length c_p0_code_1, .int .i64 r21.2.1, .int .i64 r21.2.2]] := St.mutTail (La := [.blk b1 27 [.slice none 0 0, .slice none 0 0, .slice none 0 0], .mat A7 n8 c9 23 2 vs11 r5.1.A, .row A12 n13 c14 2 1 (ints r5.1.B), .row A16 n17 c18 2 1 (ints r5.1.C), .blk b20 27 [.slice A7 n8 c9, .slice A12 n13 c14, .slice A16 n17 c18]]) (Lb := [.blk b4 145 [.slice A_p0_code_1 p0_code.length c_p0_code_1, .int .i64 r5.2.1, .int .i64 r5.2.2]]) (hs.sel [0, 1, 2, 3, 5, 4] (by decide)) hs1
  clear hs1
  refine sY hf hs rfl rfl rfl (Y_eql rfl rfl rfl) ?_; clear hf; intro a hf
  refine wpO_nil ?_
  refine wpL_cond hf rfl (fun hb23 => ?_) (fun hb23 => ?_)
  · have hm := bif_t hm hb23
    refine wpL_seq ?_
    refine wpL_drawM [.blk b1 27 [.slice none 0 0, .slice none 0 0, .slice none 0 0], .mat A7 n8 c9 23 2 vs11 r5.1.A, .row A12 n13 c14 2 1 (ints r5.1.B), .row A16 n17 c18 2 1 (ints r5.1.C), .blk b20 27 [.slice A7 n8 c9, .slice A12 n13 c14, .slice A16 n17 c18]] [4] (by kernel_rfl) hs ?_; clear hs; intro w hs
    have hs0 : St [] W w [.blk b1 27 [.slice none 0 0, .slice none 0 0, .slice none 0 0], .mat A7 n8 c9 23 2 vs11 r5.1.A, .row A12 n13 c14 2 1 (ints r5.1.B), .row A16 n17 c18 2 1 (ints r5.1.C), .blk b20 27 [.slice A7 n8 c9, .slice A12 n13 c14, .slice A16 n17 c18]] := hs.sel [0, 1, 2, 3, 4] (by decide)
    refine mY (i := 0) [[]] rfl (by kernel_rfl) (by kernel_rfl) hf hs0 rfl rfl rfl (Y_load_blkS rfl rfl (i := 4) rfl ag27 ti27 rfl) ?_; clear hf; intro a hf
    refine mYp (i := 1) rfl (by kernel_rfl) (by kernel_rfl) hf rfl rfl rfl (fun _ => Y_move rfl rfl) ?_; clear hf; intro a hf
    refine mRun (i := 2) rfl (by kernel_rfl) ?_
    refine sBuildSlice (parts := [(0, .const (.int .i64 (-1))), (1, .const (.int .i64 50)), (2, .const (.int .i64 51))]) (vs := [.int .i64 (-1), .int .i64 50, .int .i64 51]) (cells := [.int .i64 (-1), .int .i64 50, .int .i64 51]) hf hs rfl rfl rfl rfl rfl el23 ti2 rfl rfl rfl rfl ?_; clear hf hs; intro a w A28 hs hA29 hf
    have hs : St [] W w [.blk b1 27 [.slice none 0 0, .slice none 0 0, .slice none 0 0], .mat A7 n8 c9 23 2 vs11 r5.1.A, .row A12 n13 c14 2 1 (ints r5.1.B), .row A16 n17 c18 2 1 (ints r5.1.C), .blk b20 27 [.slice A7 n8 c9, .slice A12 n13 c14, .slice A16 n17 c18], .blk b4 145 [.slice A_p0_code_1 p0_code.length c_p0_code_1, .int .i64 r21.2.1, .int .i64 r21.2.2], .row A28 3 3 2 1 (ints ([(-1), 50, 51]))] := hs
    have hs0 : St [] W w [.blk b1 27 [.slice none 0 0, .slice none 0 0, .slice none 0 0], .mat A7 n8 c9 23 2 vs11 r5.1.A, .row A12 n13 c14 2 1 (ints r5.1.B), .row A16 n17 c18 2 1 (ints r5.1.C), .blk b20 27 [.slice A7 n8 c9, .slice A12 n13 c14, .slice A16 n17 c18]] := hs.sel [0, 1, 2, 3, 4] (by decide)
    refine wpO_nil ⟨Or.inr (fun _ => hs0), ?_⟩
    refine mRun (i := 3) rfl (by kernel_rfl) ?_
    obtain ⟨r30, hc31, hm⟩ := bind_some hm
    refine sCall hf rfl rfl rfl rfl (cap := []) rfl rfl en114 (spec_l01Pick_ok F b4 p0_code A_p0_code_1 p0_code.length c_p0_code_1 rfl r21.2.1 r21.2.2 ([(-1), 50, 51]) A28 3 3 rfl _ _ hc31 (h_p0_code_1.pass hs [5]) (hs.keepR (i := 6) rfl [5] (by decide)) (hs.sel [5] (by decide)).rebase) ?_; clear hf
    rintro _ w ⟨rfl, hs1⟩ a hf
    have hs : St [] W w [.blk b1 27 [.slice none 0 0, .slice none 0 0, .slice none 0 0], .mat A7 n8 c9 23 2 vs11 r5.1.A, .row A12 n13 c14 2 1 (ints r5.1.B), .row A16 n17 c18 2 1 (ints r5.1.C), .blk b20 27 [.slice A7 n8 c9, .slice A12 n13 c14, .slice A16 n17 c18], .row A28 3 3 2 1 (ints ([(-1), 50, 51])), .blk b4 145 [.slice A_p0_code_1 p0_code.length c_p0_code_1, .int .i64 r30.2.1, .int .i64 r30.2.2]] := St.mutTail (La := [.blk b1 27 [.slice none 0 0, .slice none 0 0, .slice none 0 0], .mat A7 n8 c9 23 2 vs11 r5.1.A, .row A12 n13 c14 2 1 (ints r5.1.B), .row A16 n17 c18 2 1 (ints r5.1.C), .blk b20 27 [.slice A7 n8 c9, .slice A12 n13 c14, .slice A16 n17 c18], .row A28 3 3 2 1 (ints ([(-1), 50, 51]))]) (Lb := [.blk b4 145 [.slice A_p0_code_1 p0_code.length c_p0_code_1, .int .i64 r21.2.1, .int .i64 r21.2.2]]) (hs.sel [0, 1, 2, 3, 4, 6, 5] (by decide)) hs1
    clear hs1
    have hs0 : St [] W w [.blk b1 27 [.slice none 0 0, .slice none 0 0, .slice none 0 0], .mat A7 n8 c9 23 2 vs11 r5.1.A, .row A12 n13 c14 2 1 (ints r5.1.B), .row A16 n17 c18 2 1 (ints r5.1.C), .blk b20 27 [.slice A7 n8 c9, .slice A12 n13 c14, .slice A16 n17 c18]] := hs.sel [0, 1, 2, 3, 4] (by decide)
    refine wpO_nil ⟨Or.inr (fun _ => hs0), ?_⟩
    refine mRun (i := 4) rfl (by kernel_rfl) ?_
    refine sStore (i := 0) (us := [.slice A7 n8 c9, .slice A12 n13 c14, .slice A16 n17 c18]) hf hs rfl rfl rfl rfl rfl rfl ti27 rfl rfl rfl (Nat.le_of_ble_eq_true rfl) rfl ?_; clear hs; intro w hs
    have hs : St [] W w [.blk b1 27 [.slice A7 n8 c9, .slice A12 n13 c14, .slice A16 n17 c18], .mat A7 n8 c9 23 2 vs11 r5.1.A, .row A12 n13 c14 2 1 (ints r5.1.B), .row A16 n17 c18 2 1 (ints r5.1.C), .blk b20 27 [.slice A7 n8 c9, .slice A12 n13 c14, .slice A16 n17 c18], .row A28 3 3 2 1 (ints ([(-1), 50, 51])), .blk b4 145 [.slice A_p0_code_1 p0_code.length c_p0_code_1, .int .i64 r30.2.1, .int .i64 r30.2.2]] := hs
    refine wpO_nil ⟨Or.inl (by decide), ?_⟩
    refine mYp (i := 5) rfl (by kernel_rfl) (by kernel_rfl) hf rfl rfl rfl (fun _ => Y_assign rfl rfl) ?_; clear hf; intro a hf
    refine mDone (by kernel_rfl) ?_
    clear hs0
    obtain rfl := Option.some.inj hm
    refine wpL_ret (ret_cell_tmp rfl hf rfl rfl hs (i := 0) rfl ag27 ti27 rfl ?_)
    exact ⟨_, rfl, A7, n8, c9, vs11, A12, n13, c14, A16, n17, c18, rfl, hn10, hn15, hn19, hs.sel [1, 2, 3] (by decide)⟩
  · have hm := bif_f hm hb23
    refine wpL_skip ?_
    refine wpL_seq ?_
    refine wpL_drawM [.blk b1 27 [.slice none 0 0, .slice none 0 0, .slice none 0 0], .mat A7 n8 c9 23 2 vs11 r5.1.A, .row A12 n13 c14 2 1 (ints r5.1.B), .row A16 n17 c18 2 1 (ints r5.1.C), .blk b20 27 [.slice A7 n8 c9, .slice A12 n13 c14, .slice A16 n17 c18]] [3] (by kernel_rfl) hs ?_; clear hs; intro w hs
    have hs0 : St [] W w [.blk b1 27 [.slice none 0 0, .slice none 0 0, .slice none 0 0], .mat A7 n8 c9 23 2 vs11 r5.1.A, .row A12 n13 c14 2 1 (ints r5.1.B), .row A16 n17 c18 2 1 (ints r5.1.C), .blk b20 27 [.slice A7 n8 c9, .slice A12 n13 c14, .slice A16 n17 c18]] := hs.sel [0, 1, 2, 3, 4] (by decide)
    refine mY (i := 0) [[]] rfl (by kernel_rfl) (by kernel_rfl) hf hs0 rfl rfl rfl (Y_load_blkS rfl rfl (i := 4) rfl ag27 ti27 rfl) ?_; clear hf; intro a hf
    refine mYp (i := 1) rfl (by kernel_rfl) (by kernel_rfl) hf rfl rfl rfl (fun _ => Y_move rfl rfl) ?_; clear hf; intro a hf
    refine mRun (i := 2) rfl (by kernel_rfl) ?_
    obtain ⟨r34, hc35, hm⟩ := bind_some hm
    refine sCall hf rfl rfl rfl rfl (cap := []) rfl rfl en107 (spec_l01Next_ok F b4 p0_code A_p0_code_1 p0_code.length c_p0_code_1 rfl r21.2.1 r21.2.2 9 _ _ hc35 (h_p0_code_1.pass hs [5]) (hs.sel [5] (by decide)).rebase) ?_; clear hf
    rintro _ w ⟨rfl, hs1⟩ a hf
    have hs : St [] W w [.blk b1 27 [.slice none 0 0, .slice none 0 0, .slice none 0 0], .mat A7 n8 c9 23 2 vs11 r5.1.A, .row A12 n13 c14 2 1 (ints r5.1.B), .row A16 n17 c18 2 1 (ints r5.1.C), .blk b20 27 [.slice A7 n8 c9, .slice A12 n13 c14, .slice A16 n17 c18], .blk b4 145 [.slice A_p0_code_1 p0_code.length c_p0_code_1, .int .i64 r34.2.1, .int .i64 r34.2.2]] := St.mutTail (La := [.blk b1 27 [.slice none 0 0, .slice none 0 0, .slice none 0 0], .mat A7 n8 c9 23 2 vs11 r5.1.A, .row A12 n13 c14 2 1 (ints r5.1.B), .row A16 n17 c18 2 1 (ints r5.1.C), .blk b20 27 [.slice A7 n8 c9, .slice A12 n13 c14, .slice A16 n17 c18]]) (Lb := [.blk b4 145 [.slice A_p0_code_1 p0_code.length c_p0_code_1, .int .i64 r21.2.1, .int .i64 r21.2.2]]) (hs.sel [0, 1, 2, 3, 4, 5] (by decide)) hs1
    clear hs1
    have hs0 : St [] W w [.blk b1 27 [.slice none 0 0, .slice none 0 0, .slice none 0 0], .mat A7 n8 c9 23 2 vs11 r5.1.A, .row A12 n13 c14 2 1 (ints r5.1.B), .row A16 n17 c18 2 1 (ints r5.1.C), .blk b20 27 [.slice A7 n8 c9, .slice A12 n13 c14, .slice A16 n17 c18]] := hs.sel [0, 1, 2, 3, 4] (by decide)
    refine wpO_nil ⟨Or.inr (fun _ => hs0), ?_⟩
    refine mRun (i := 3) rfl (by kernel_rfl) ?_
    refine sStore (i := 0) (us := [.slice A7 n8 c9, .slice A12 n13 c14, .slice A16 n17 c18]) hf hs rfl rfl rfl rfl rfl rfl ti27 rfl rfl rfl (Nat.le_of_ble_eq_true rfl) rfl ?_; clear hs; intro w hs
    have hs : St [] W w [.blk b1 27 [.slice A7 n8 c9, .slice A12 n13 c14, .slice A16 n17 c18], .mat A7 n8 c9 23 2 vs11 r5.1.A, .row A12 n13 c14 2 1 (ints r5.1.B), .row A16 n17 c18 2 1 (ints r5.1.C), .blk b20 27 [.slice A7 n8 c9, .slice A12 n13 c14, .slice A16 n17 c18], .blk b4 145 [.slice A_p0_code_1 p0_code.length c_p0_code_1, .int .i64 r34.2.1, .int .i64 r34.2.2]] := hs
    refine wpO_nil ⟨Or.inl (by decide), ?_⟩
    refine mYp (i := 4) rfl (by kernel_rfl) (by kernel_rfl) hf rfl rfl rfl (fun _ => Y_assign rfl rfl) ?_; clear hf; intro a hf
    refine mDone (by kernel_rfl) ?_
    clear hs0
    obtain rfl := Option.some.inj hm
    refine wpL_ret (ret_cell_tmp rfl hf rfl rfl hs (i := 0) rfl ag27 ti27 rfl ?_)
    exact ⟨_, rfl, A7, n8, c9, vs11, A12, n13, c14, A16, n17, c18, rfl, hn10, hn15, hn19, hs.sel [1, 2, 3] (by decide)⟩

set_option maxRecDepth 100000 in
theorem impl_responseOf_ok (F : Nat) (p0_s : GSystem) (A_p0_s_1 : Option Addr) (n_p0_s_1 c_p0_s_1 : Nat) (hn_p0_s_1 : n_p0_s_1 = p0_s.A.length) (A_p0_s_2 : Option Addr) (n_p0_s_2 c_p0_s_2 : Nat) (hn_p0_s_2 : n_p0_s_2 = p0_s.B.length) (A_p0_s_3 : Option Addr) (n_p0_s_3 c_p0_s_3 : Nat) (hn_p0_s_3 : n_p0_s_3 = p0_s.C.length) (p1_n : Int) (r : List Int × Int) (W : World) (hm : impl_responseOf F p0_s p1_n = some r) (h_p0_s_1 : RdM W A_p0_s_1 p0_s.A) (h_p0_s_2 : Rd W A_p0_s_2 (ints p0_s.B)) (h_p0_s_3 : Rd W A_p0_s_3 (ints p0_s.C)) :
    Calls Try.prog 106 [.agg #[.slice A_p0_s_1 n_p0_s_1 c_p0_s_1, .slice A_p0_s_2 n_p0_s_2 c_p0_s_2, .slice A_p0_s_3 n_p0_s_3 c_p0_s_3], .int .i64 p1_n].toArray W fun e w' => ∃ v, e = .returned v ∧ ∃ A220, ∃ n221, ∃ c222, v = .tuple #[.slice A220 n221 c222, .int .i64 r.2] ∧ n221 = r.1.length ∧ St [] W w' [.row A220 n221 c222 2 1 (ints r.1)] := by
  subst hn_p0_s_1
  subst hn_p0_s_2
  subst hn_p0_s_3
  unfold impl_responseOf at hm
  refine Calls.enter (N := 41) Try.func106 rfl rfl rfl (fun a hf => ?_)
  have hs := St.start W
  obtain ⟨w, hw_⟩ : ∃ w, w = W := ⟨W, rfl⟩
  clear hw_ w
  refine wpL_seq ?_
  refine wpL_region ?_
  refine sBox hf hs rfl rfl rfl rfl rfl (cs := [.slice A_p0_s_1 p0_s.A.length c_p0_s_1, .slice A_p0_s_2 p0_s.B.length c_p0_s_2, .slice A_p0_s_3 p0_s.C.length c_p0_s_3]) rfl ?_; clear hf hs; intro a w b1 hs hf
  have hs : St [] W w [.blk b1 27 [.slice A_p0_s_1 p0_s.A.length c_p0_s_1, .slice A_p0_s_2 p0_s.B.length c_p0_s_2, .slice A_p0_s_3 p0_s.C.length c_p0_s_3]] := hs
  refine sY hf hs rfl rfl rfl (Y_assign rfl rfl) ?_; clear hf; intro a hf
  refine sY hf hs rfl rfl rfl (Y_assign rfl rfl) ?_; clear hf; intro a hf
  refine wpO_nil ?_
  refine wpL_seq ?_
  refine wpL_region ?_
  refine sY hf hs rfl rfl rfl (Y_fieldAddr rfl rfl fo27_1) ?_; clear hf; intro a hf
  refine sY hf hs rfl rfl rfl (Y_load_blk rfl rfl (i := 0) rfl rfl ag23) ?_; clear hf; intro a hf
  obtain ⟨r2, hc3, hm⟩ := bind_some hm
  refine sCall hf rfl rfl rfl rfl (cap := []) rfl rfl en91 (slices_Clone_int64_ok F p0_s.B A_p0_s_2 p0_s.B.length c_p0_s_2 rfl _ _ hc3 (h_p0_s_2.at hs)) ?_; clear hf
  rintro _ w ⟨A4, n5, c6, rfl, hn7, hs1⟩ a hf
  have hs : St [] W w [.blk b1 27 [.slice A_p0_s_1 p0_s.A.length c_p0_s_1, .slice A_p0_s_2 p0_s.B.length c_p0_s_2, .slice A_p0_s_3 p0_s.C.length c_p0_s_3], .row A4 n5 c6 2 1 (ints r2)] := hs.join hs1
  clear hs1
  refine sY hf hs rfl rfl rfl (Y_assign rfl rfl) ?_; clear hf; intro a hf
  refine wpO_nil ?_
  refine wpL_seq ?_
  refine wpL_region ?_
  refine sY hf hs rfl rfl rfl (Y_assign rfl rfl) ?_; clear hf; intro a hf
  refine wpO_nil ?_
  refine wpL_seq ?_
  refine wpL_seq ?_
  refine wpL_region ?_
  refine sY hf hs rfl rfl rfl (Y_move rfl rfl) ?_; clear hf; intro a hf
  refine sY hf hs rfl rfl rfl (Y_move rfl rfl) ?_; clear hf; intro a hf
  refine wpO_nil ?_
  obtain ⟨r170, hl171, hm⟩ := bind_some hm
  have hs : St [] W _ [.blk b1 27 [.slice A_p0_s_1 p0_s.A.length c_p0_s_1, .slice A_p0_s_2 p0_s.B.length c_p0_s_2, .slice A_p0_s_3 p0_s.C.length c_p0_s_3], .row A4 n5 c6 2 1 (ints r2), .row none 0 0 2 1 (ints ([] : List Int))] := hs.addNil 2 1
  refine wpL_block (fun a w => ∃ xs165 : List Int, ∃ A166, ∃ n167, ∃ c168, Sum.inr xs165 = r170 ∧ n167 = xs165.length ∧ Fr a 41 [(7, .slice A166 n167 c168)] ∧ St [] W w [.row A166 n167 c168 2 1 (ints xs165)]) ?_ ?_
  · refine wpL_loop (fun n a w => ∃ xs109 : List Int, ∃ xs115 : List Int, ∃ x120 : Int, ∃ A110, ∃ n111, ∃ c112, ∃ A116, ∃ n117, ∃ c118, impl_responseOf_L1 F p0_s p1_n n xs109 xs115 x120 = some r170 ∧ n111 = xs109.length ∧ n117 = xs115.length ∧ Fr a 41 [(2, .pointer (some ⟨b1, 0, none⟩)), (6, .slice A110 n111 c112), (7, .slice A116 n117 c118), (13, .int .i64 p1_n), (14, .int .i64 x120)] ∧ St [] W w [.blk b1 27 [.slice A_p0_s_1 p0_s.A.length c_p0_s_1, .slice A_p0_s_2 p0_s.B.length c_p0_s_2, .slice A_p0_s_3 p0_s.C.length c_p0_s_3], .row A110 n111 c112 2 1 (ints xs109), .row A116 n117 c118 2 1 (ints xs115)]) F ?_ ?_ ?_
    · exact ⟨r2, ([] : List Int), 0, A4, n5, c6, none, 0, 0, hl171, hn7, rfl, (FrD.pick (FrD.pick (FrD.pick (FrD.pick (FrD.pick hf.none hf rfl) hf rfl) hf rfl) hf rfl) hf rfl), hs⟩
    · rintro a w ⟨xs109, xs115, x120, A110, n111, c112, A116, n117, c118, h0_, -, -, -, -⟩; simp [impl_responseOf_L1] at h0_
    · rintro n173 a w ⟨xs109, xs115, x120, A110, n111, c112, A116, n117, c118, hm172, hn113, hn119, hf, hs⟩
      rw [impl_responseOf_L1] at hm172
      refine wpL_seq ?_
      refine wpL_region ?_
      refine sY hf hs rfl rfl rfl (Y_lss rfl rfl rfl) ?_; clear hf; intro a hf
      refine wpO_nil ?_
      refine wpL_seq ?_
      refine wpL_cond hf rfl (fun hb174 => ?_) (fun hb174 => ?_)
      · have hm172 := bif_t hm172 hb174
        refine wpL_skip ?_
        refine wpL_seq ?_
        refine wpL_block0 ?_
        refine wpL_seq ?_
        refine wpL_region ?_
        refine sY hf hs rfl rfl rfl (Y_move rfl rfl) ?_; clear hf; intro a hf
        refine sY hf hs rfl rfl rfl (Y_assign rfl rfl) ?_; clear hf; intro a hf
        refine wpO_nil ?_
        refine wpL_seq ?_
        refine wpL_seq ?_
        refine wpL_region ?_
        refine sY hf hs rfl rfl rfl (Y_move rfl rfl) ?_; clear hf; intro a hf
        refine sY hf hs rfl rfl rfl (Y_gtr rfl rfl rfl) ?_; clear hf; intro a hf
        refine wpO_nil ?_
        obtain ⟨r187, hj188, hm172⟩ := bind_some hm172
        refine wpL_cut (fun a w => ∃ xs182 : List Int, ∃ A183, ∃ n184, ∃ c185, xs182 = r187 ∧ n184 = xs182.length ∧ Fr a 41 [(2, .pointer (some ⟨b1, 0, none⟩)), (6, .slice A183 n184 c185), (7, .slice A116 n117 c118), (13, .int .i64 p1_n), (14, .int .i64 x120)] ∧ St [] W w [.blk b1 27 [.slice A_p0_s_1 p0_s.A.length c_p0_s_1, .slice A_p0_s_2 p0_s.B.length c_p0_s_2, .slice A_p0_s_3 p0_s.C.length c_p0_s_3], .row A183 n184 c185 2 1 (ints xs182), .row A116 n117 c118 2 1 (ints xs115)]) ?_ ?_
        · refine wpL_cond hf rfl (fun hb189 => ?_) (fun hb189 => ?_)
          · have hj188 := bif_t hj188 hb189
            refine wpL_region ?_
            refine sY hf hs rfl rfl rfl (Y_fieldAddr rfl rfl fo27_0) ?_; clear hf; intro a hf
            refine sY hf hs rfl rfl rfl (Y_load_blk rfl rfl (i := 0) rfl rfl ag22) ?_; clear hf; intro a hf
            refine sY hf hs rfl rfl rfl (Y_move rfl rfl) ?_; clear hf; intro a hf
            obtain ⟨r190, hc191, hj188⟩ := bind_some hj188
            refine sCall hf rfl rfl rfl rfl (cap := []) rfl rfl en83 (impl_timesVector_ok F p0_s.A A_p0_s_1 p0_s.A.length c_p0_s_1 rfl xs109 A110 n111 c112 hn113 _ _ hc191 (h_p0_s_1.at hs) (hs.rd (i := 1) rfl)) ?_; clear hf
            rintro _ w ⟨A192, n193, c194, rfl, hn195, hs1⟩ a hf
            have hs : St [] W w [.blk b1 27 [.slice A_p0_s_1 p0_s.A.length c_p0_s_1, .slice A_p0_s_2 p0_s.B.length c_p0_s_2, .slice A_p0_s_3 p0_s.C.length c_p0_s_3], .row A110 n111 c112 2 1 (ints xs109), .row A116 n117 c118 2 1 (ints xs115), .row A192 n193 c194 2 1 (ints r190)] := hs.join hs1
            clear hs1
            refine sY hf hs rfl rfl rfl (Y_assign rfl rfl) ?_; clear hf; intro a hf
            refine wpO_nil ?_
            refine wpL_nil (then_normal ?_)
            exact ⟨r190, A192, n193, c194, Option.some.inj hj188, hn195, (FrD.pick (FrD.pick (FrD.pick (FrD.pick (FrD.pick hf.none hf rfl) hf rfl) hf rfl) hf rfl) hf rfl), hs.sel [0, 3, 2] (by decide)⟩
          · have hj188 := bif_f hj188 hb189
            refine wpL_skip ?_
            refine wpL_nil (then_normal ?_)
            exact ⟨xs109, A110, n111, c112, Option.some.inj hj188, hn113, (FrD.pick (FrD.pick (FrD.pick (FrD.pick (FrD.pick hf.none hf rfl) hf rfl) hf rfl) hf rfl) hf rfl), hs⟩
        · rintro a w ⟨xs182, A183, n184, c185, hr_, hn186, hf, hs⟩
          subst hr_
          try dsimp only at hm172
          refine wpL_seq ?_
          refine wpL_region ?_
          refine sY hf hs rfl rfl rfl (Y_fieldAddr rfl rfl fo27_2) ?_; clear hf; intro a hf
          refine sY hf hs rfl rfl rfl (Y_load_blk rfl rfl (i := 0) rfl rfl ag23) ?_; clear hf; intro a hf
          refine sY hf hs rfl rfl rfl (Y_move rfl rfl) ?_; clear hf; intro a hf
          obtain ⟨r196, hc197, hm172⟩ := bind_some hm172
          refine sCall hf rfl rfl rfl rfl (cap := []) rfl rfl en85 (impl_innerProduct_ok F p0_s.C A_p0_s_3 p0_s.C.length c_p0_s_3 rfl xs182 A183 n184 c185 hn186 _ _ hc197 (h_p0_s_3.at hs) (hs.rd (i := 1) rfl)) ?_; clear hf
          rintro _ w ⟨rfl, hs1⟩ a hf
          have hs : St [] W w [.blk b1 27 [.slice A_p0_s_1 p0_s.A.length c_p0_s_1, .slice A_p0_s_2 p0_s.B.length c_p0_s_2, .slice A_p0_s_3 p0_s.C.length c_p0_s_3], .row A183 n184 c185 2 1 (ints xs182), .row A116 n117 c118 2 1 (ints xs115)] := hs.ext hs1.below
          clear hs1
          refine sY hf hs rfl rfl rfl (Y_assign rfl rfl) ?_; clear hf; intro a hf
          refine wpO_nil ?_
          refine wpL_seq ?_
          refine wpL_seq ?_
          obtain ⟨r204, hj205, hm172⟩ := bind_some hm172
          refine wpL_cut (fun a w => ∃ b203 : Bool, b203 = r204 ∧ Fr a 41 [(2, .pointer (some ⟨b1, 0, none⟩)), (6, .slice A183 n184 c185), (7, .slice A116 n117 c118), (9, .int .i64 r196), (13, .int .i64 p1_n), (14, .int .i64 x120), (34, .bool b203)] ∧ St [] W w [.blk b1 27 [.slice A_p0_s_1 p0_s.A.length c_p0_s_1, .slice A_p0_s_2 p0_s.B.length c_p0_s_2, .slice A_p0_s_3 p0_s.C.length c_p0_s_3], .row A183 n184 c185 2 1 (ints xs182), .row A116 n117 c118 2 1 (ints xs115)]) ?_ ?_
          · refine wpL_region ?_
            refine sY hf hs rfl rfl rfl (Y_move rfl rfl) ?_; clear hf; intro a hf
            obtain ⟨r206, hc207, hj205⟩ := bind_some hj205
            refine sCall hf rfl rfl rfl rfl (cap := []) rfl rfl en86 (impl_areValues_ok F xs182 A183 n184 c185 hn186 _ _ hc207 (hs.rd (i := 1) rfl)) ?_; clear hf
            rintro _ w ⟨rfl, hs1⟩ a hf
            have hs : St [] W w [.blk b1 27 [.slice A_p0_s_1 p0_s.A.length c_p0_s_1, .slice A_p0_s_2 p0_s.B.length c_p0_s_2, .slice A_p0_s_3 p0_s.C.length c_p0_s_3], .row A183 n184 c185 2 1 (ints xs182), .row A116 n117 c118 2 1 (ints xs115)] := hs.ext hs1.below
            clear hs1
            refine sY hf hs rfl rfl rfl (Y_not rfl rfl) ?_; clear hf; intro a hf
            refine sY hf hs rfl rfl rfl (Y_move rfl rfl) ?_; clear hf; intro a hf
            refine bsplit (!r206) (fun hb208 => ?_) (fun hb208 => ?_)
            · have hj205 := bif_t hj205 hb208
              refine sNo hf rfl rfl rfl (congrArg (fun b => some (Value.bool b)) hb208) rfl rfl rfl ?_; clear hf; intro a hf
              refine sNo hf rfl rfl rfl (congrArg (fun b => some (Value.bool b)) hb208) rfl rfl rfl ?_; clear hf; intro a hf
              refine sNo hf rfl rfl rfl (congrArg (fun b => some (Value.bool b)) hb208) rfl rfl rfl ?_; clear hf; intro a hf
              refine sY hf hs rfl rfl rfl (Y_pickT rfl (congrArg (fun b => some (Value.bool b)) hb208) rfl) ?_; clear hf; intro a hf
              refine wpO_nil ?_
              refine wpL_nil (then_normal ?_)
              exact ⟨true, Option.some.inj hj205, (FrD.pick (FrD.pick (FrD.pick (FrD.pick (FrD.pick (FrD.pick (FrD.pick hf.none hf rfl) hf rfl) hf rfl) hf rfl) hf rfl) hf rfl) hf rfl), hs⟩
            · have hj205 := bif_f hj205 hb208
              refine sYg hf hs rfl rfl rfl (congrArg (fun b => some (Value.bool b)) hb208) rfl rfl rfl (Y_move rfl rfl) ?_; clear hf; intro a hf
              obtain ⟨r209, hc210, hj205⟩ := bind_some hj205
              refine sCallg hf rfl rfl rfl (congrArg (fun b => some (Value.bool b)) hb208) rfl rfl rfl rfl (cap := []) rfl rfl en87 (impl_IsValue_ok F r196 _ _ hc210) ?_; clear hf
              rintro _ w ⟨rfl, hs1⟩ a hf
              have hs : St [] W w [.blk b1 27 [.slice A_p0_s_1 p0_s.A.length c_p0_s_1, .slice A_p0_s_2 p0_s.B.length c_p0_s_2, .slice A_p0_s_3 p0_s.C.length c_p0_s_3], .row A183 n184 c185 2 1 (ints xs182), .row A116 n117 c118 2 1 (ints xs115)] := hs.ext hs1.below
              clear hs1
              refine sYg hf hs rfl rfl rfl (congrArg (fun b => some (Value.bool b)) hb208) rfl rfl rfl (Y_not rfl rfl) ?_; clear hf; intro a hf
              refine sY hf hs rfl rfl rfl (Y_pickF rfl (congrArg (fun b => some (Value.bool b)) hb208) rfl) ?_; clear hf; intro a hf
              refine wpO_nil ?_
              refine wpL_nil (then_normal ?_)
              exact ⟨(!r209), Option.some.inj hj205, (FrD.pick (FrD.pick (FrD.pick (FrD.pick (FrD.pick (FrD.pick (FrD.pick hf.none hf rfl) hf rfl) hf rfl) hf rfl) hf rfl) hf rfl) hf rfl), hs⟩
          · rintro a w ⟨b203, hr_, hf, hs⟩
            subst hr_
            try dsimp only at hm172
            refine wpL_cond hf rfl (fun hb211 => ?_) (fun hb211 => ?_)
            · have hm172 := bif_t hm172 hb211
              refine wpL_seq ?_
              refine wpL_region ?_
              refine sY hf hs rfl rfl rfl (Y_assign rfl rfl) ?_; clear hf; intro a hf
              refine sY hf hs rfl rfl rfl (Y_assign rfl rfl) ?_; clear hf; intro a hf
              refine wpO_nil ?_
              have hs : St [] W _ [.blk b1 27 [.slice A_p0_s_1 p0_s.A.length c_p0_s_1, .slice A_p0_s_2 p0_s.B.length c_p0_s_2, .slice A_p0_s_3 p0_s.C.length c_p0_s_3], .row A183 n184 c185 2 1 (ints xs182), .row A116 n117 c118 2 1 (ints xs115), .row none 0 0 2 1 (ints ([] : List Int))] := hs.addNil 2 1
              obtain rfl := Option.some.inj hm172
              try dsimp only at hm
              obtain rfl := Option.some.inj hm
              refine wpL_ret (Qb_ret (Ql_ret (Qb_ret (ret_tmp2 rfl hf rfl rfl ?_))))
              exact ⟨_, rfl, none, 0, 0, rfl, rfl, hs.sel [3] (by decide)⟩
            · have hm172 := bif_f hm172 hb211
              refine wpL_skip ?_
              refine wpL_region ?_
              refine sY hf hs rfl rfl rfl (Y_move rfl rfl) ?_; clear hf; intro a hf
              refine sY hf hs rfl rfl rfl (Y_move rfl rfl) ?_; clear hf; intro a hf
              refine sBuildSlice (parts := [(0, .tmp 36)]) (vs := [.int .i64 r196]) (cells := [.int .i64 r196]) hf hs rfl rfl rfl rfl rfl el23 ti2 rfl rfl rfl rfl ?_; clear hf hs; intro a w A213 hs hA214 hf
              have hs : St [] W w [.blk b1 27 [.slice A_p0_s_1 p0_s.A.length c_p0_s_1, .slice A_p0_s_2 p0_s.B.length c_p0_s_2, .slice A_p0_s_3 p0_s.C.length c_p0_s_3], .row A183 n184 c185 2 1 (ints xs182), .row A116 n117 c118 2 1 (ints xs115), .row A213 1 1 2 1 (ints ([r196]))] := hs
              obtain ⟨xs217, ha218, hm172⟩ := bind_some hm172
              refine sAppendL (i := 2) (xs := xs115) (ys := [r196]) (enc := ints) hf hs rfl rfl rfl rfl rfl rfl hn119 rfl rfl ha218 el23 ti2 rfl rfl rfl (hs.rd (i := 3) rfl) (Nat.succ_pos _) ints_len1 ints_append ints_one ?_; clear hf hs; intro a w A215 c216 hs hf
              have hs : St [] W w [.blk b1 27 [.slice A_p0_s_1 p0_s.A.length c_p0_s_1, .slice A_p0_s_2 p0_s.B.length c_p0_s_2, .slice A_p0_s_3 p0_s.C.length c_p0_s_3], .row A183 n184 c185 2 1 (ints xs182), .row A215 xs217.length c216 2 1 (ints xs217), .row A213 1 1 2 1 (ints ([r196]))] := hs
              refine sY hf hs rfl rfl rfl (Y_assign rfl rfl) ?_; clear hf; intro a hf
              refine wpO_nil ?_
              refine wpL_nil (Qb_normal ?_)
              refine wpL_region ?_
              refine sY hf hs rfl rfl rfl (Y_add rfl rfl rfl) ?_; clear hf; intro a hf
              refine sY hf hs rfl rfl rfl (Y_move rfl rfl) ?_; clear hf; intro a hf
              refine wpO_nil ?_
              refine wpL_nil (Ql_normal ?_)
              exact ⟨xs182, xs217, (IntKind.i64.wrap (x120 + 1)), A183, n184, c185, A215, xs217.length, c216, hm172, hn186, rfl, (FrD.pick (FrD.pick (FrD.pick (FrD.pick (FrD.pick hf.none hf rfl) hf rfl) hf rfl) hf rfl) hf rfl), hs.sel [0, 1, 2] (by decide)⟩
      · have hm172 := bif_f hm172 hb174
        refine wpL_exit (Ql_exit (Qb_exit ?_))
        exact ⟨xs115, A116, n117, c118, Option.some.inj hm172, hn119, (FrD.pick hf.none hf rfl), hs.sel [2] (by decide)⟩
  · rintro a w ⟨xs165, A166, n167, c168, hr_, hn169, hf, hs⟩
    subst hr_
    try dsimp only at hm
    refine wpL_seq ?_
    refine wpL_region ?_
    refine sY hf hs rfl rfl rfl (Y_move rfl rfl) ?_; clear hf; intro a hf
    refine sY hf hs rfl rfl rfl (Y_assign rfl rfl) ?_; clear hf; intro a hf
    refine sY hf hs rfl rfl rfl (Y_assign rfl rfl) ?_; clear hf; intro a hf
    refine wpO_nil ?_
    obtain rfl := Option.some.inj hm
    refine wpL_ret (ret_tmp2 rfl hf rfl rfl ?_)
    exact ⟨_, rfl, A166, n167, c168, rfl, hn169, hs⟩

set_option maxRecDepth 100000 in
theorem impl_ResponseOf_ok (F : Nat) (p0_s : GSystem) (A_p0_s_1 : Option Addr) (n_p0_s_1 c_p0_s_1 : Nat) (hn_p0_s_1 : n_p0_s_1 = p0_s.A.length) (A_p0_s_2 : Option Addr) (n_p0_s_2 c_p0_s_2 : Nat) (hn_p0_s_2 : n_p0_s_2 = p0_s.B.length) (A_p0_s_3 : Option Addr) (n_p0_s_3 c_p0_s_3 : Nat) (hn_p0_s_3 : n_p0_s_3 = p0_s.C.length) (p1_n : Int) (r : List Int × Int) (W : World) (hm : impl_ResponseOf F p0_s p1_n = some r) (h_p0_s_1 : RdM W A_p0_s_1 p0_s.A) (h_p0_s_2 : Rd W A_p0_s_2 (ints p0_s.B)) (h_p0_s_3 : Rd W A_p0_s_3 (ints p0_s.C)) :
    Calls Try.prog 22 [.agg #[.slice A_p0_s_1 n_p0_s_1 c_p0_s_1, .slice A_p0_s_2 n_p0_s_2 c_p0_s_2, .slice A_p0_s_3 n_p0_s_3 c_p0_s_3], .int .i64 p1_n].toArray W fun e w' => ∃ v, e = .returned v ∧ ∃ A16, ∃ n17, ∃ c18, v = .tuple #[.slice A16 n17 c18, .int .i64 r.2] ∧ n17 = r.1.length ∧ St [] W w' [.row A16 n17 c18 2 1 (ints r.1)] := by
  subst hn_p0_s_1
  subst hn_p0_s_2
  subst hn_p0_s_3
  unfold impl_ResponseOf at hm
  refine Calls.enter (N := 17) Try.func22 rfl rfl rfl (fun a hf => ?_)
  have hs := St.start W
  obtain ⟨w, hw_⟩ : ∃ w, w = W := ⟨W, rfl⟩
  clear hw_ w
  refine wpL_seq ?_
  refine wpL_region ?_
  refine sBox hf hs rfl rfl rfl rfl rfl (cs := [.slice A_p0_s_1 p0_s.A.length c_p0_s_1, .slice A_p0_s_2 p0_s.B.length c_p0_s_2, .slice A_p0_s_3 p0_s.C.length c_p0_s_3]) rfl ?_; clear hf hs; intro a w b1 hs hf
  have hs : St [] W w [.blk b1 27 [.slice A_p0_s_1 p0_s.A.length c_p0_s_1, .slice A_p0_s_2 p0_s.B.length c_p0_s_2, .slice A_p0_s_3 p0_s.C.length c_p0_s_3]] := hs
  refine sY hf hs rfl rfl rfl (Y_assign rfl rfl) ?_; clear hf; intro a hf
  refine sY hf hs rfl rfl rfl (Y_assign rfl rfl) ?_; clear hf; intro a hf
  refine wpO_nil ?_
  refine wpL_seq ?_
  refine wpL_seq ?_
  refine wpL_region ?_
  refine sY hf hs rfl rfl rfl (Y_load_blkS rfl rfl (i := 0) rfl ag27 ti27 rfl) ?_; clear hf; intro a hf
  obtain ⟨r2, hc3, hm⟩ := bind_some hm
  refine sCall hf rfl rfl rfl rfl (cap := []) rfl rfl en31 (impl_IsSystem_ok F p0_s A_p0_s_1 p0_s.A.length c_p0_s_1 rfl A_p0_s_2 p0_s.B.length c_p0_s_2 rfl A_p0_s_3 p0_s.C.length c_p0_s_3 rfl _ _ hc3 (h_p0_s_1.at hs) (h_p0_s_2.at hs) (h_p0_s_3.at hs)) ?_; clear hf
  rintro _ w ⟨rfl, hs1⟩ a hf
  have hs : St [] W w [.blk b1 27 [.slice A_p0_s_1 p0_s.A.length c_p0_s_1, .slice A_p0_s_2 p0_s.B.length c_p0_s_2, .slice A_p0_s_3 p0_s.C.length c_p0_s_3]] := hs.ext hs1.below
  clear hs1
  refine sY hf hs rfl rfl rfl (Y_not rfl rfl) ?_; clear hf; intro a hf
  refine wpO_nil ?_
  refine wpL_cond hf rfl (fun hb4 => ?_) (fun hb4 => ?_)
  · have hm := bif_t hm hb4
    refine wpL_seq ?_
    refine wpL_region ?_
    refine sY hf hs rfl rfl rfl (Y_assign rfl rfl) ?_; clear hf; intro a hf
    refine sY hf hs rfl rfl rfl (Y_assign rfl rfl) ?_; clear hf; intro a hf
    refine wpO_nil ?_
    have hs : St [] W _ [.blk b1 27 [.slice A_p0_s_1 p0_s.A.length c_p0_s_1, .slice A_p0_s_2 p0_s.B.length c_p0_s_2, .slice A_p0_s_3 p0_s.C.length c_p0_s_3], .row none 0 0 2 1 (ints ([] : List Int))] := hs.addNil 2 1
    obtain rfl := Option.some.inj hm
    refine wpL_ret (ret_tmp2 rfl hf rfl rfl ?_)
    exact ⟨_, rfl, none, 0, 0, rfl, rfl, hs.sel [1] (by decide)⟩
  · have hm := bif_f hm hb4
    refine wpL_skip ?_
    refine wpL_seq ?_
    refine wpL_seq ?_
    refine wpL_region ?_
    refine sY hf hs rfl rfl rfl (Y_move rfl rfl) ?_; clear hf; intro a hf
    obtain ⟨r6, hc7, hm⟩ := bind_some hm
    refine sCall hf rfl rfl rfl rfl (cap := []) rfl rfl en105 (impl_within_ok F p1_n 0 50 _ _ hc7) ?_; clear hf
    rintro _ w ⟨rfl, hs1⟩ a hf
    have hs : St [] W w [.blk b1 27 [.slice A_p0_s_1 p0_s.A.length c_p0_s_1, .slice A_p0_s_2 p0_s.B.length c_p0_s_2, .slice A_p0_s_3 p0_s.C.length c_p0_s_3]] := hs.ext hs1.below
    clear hs1
    refine sY hf hs rfl rfl rfl (Y_not rfl rfl) ?_; clear hf; intro a hf
    refine wpO_nil ?_
    refine wpL_cond hf rfl (fun hb8 => ?_) (fun hb8 => ?_)
    · have hm := bif_t hm hb8
      refine wpL_seq ?_
      refine wpL_region ?_
      refine sY hf hs rfl rfl rfl (Y_assign rfl rfl) ?_; clear hf; intro a hf
      refine sY hf hs rfl rfl rfl (Y_assign rfl rfl) ?_; clear hf; intro a hf
      refine wpO_nil ?_
      have hs : St [] W _ [.blk b1 27 [.slice A_p0_s_1 p0_s.A.length c_p0_s_1, .slice A_p0_s_2 p0_s.B.length c_p0_s_2, .slice A_p0_s_3 p0_s.C.length c_p0_s_3], .row none 0 0 2 1 (ints ([] : List Int))] := hs.addNil 2 1
      obtain rfl := Option.some.inj hm
      refine wpL_ret (ret_tmp2 rfl hf rfl rfl ?_)
      exact ⟨_, rfl, none, 0, 0, rfl, rfl, hs.sel [1] (by decide)⟩
    · have hm := bif_f hm hb8
      refine wpL_skip ?_
      refine wpL_seq ?_
      refine wpL_region ?_
      refine sY hf hs rfl rfl rfl (Y_load_blkS rfl rfl (i := 0) rfl ag27 ti27 rfl) ?_; clear hf; intro a hf
      refine sY hf hs rfl rfl rfl (Y_move rfl rfl) ?_; clear hf; intro a hf
      obtain ⟨r10, hc11, hm⟩ := bind_some hm
      refine sCall hf rfl rfl rfl rfl (cap := []) rfl rfl en106 (impl_responseOf_ok F p0_s A_p0_s_1 p0_s.A.length c_p0_s_1 rfl A_p0_s_2 p0_s.B.length c_p0_s_2 rfl A_p0_s_3 p0_s.C.length c_p0_s_3 rfl p1_n _ _ hc11 (h_p0_s_1.at hs) (h_p0_s_2.at hs) (h_p0_s_3.at hs)) ?_; clear hf
      rintro _ w ⟨A12, n13, c14, rfl, hn15, hs1⟩ a hf
      have hs : St [] W w [.blk b1 27 [.slice A_p0_s_1 p0_s.A.length c_p0_s_1, .slice A_p0_s_2 p0_s.B.length c_p0_s_2, .slice A_p0_s_3 p0_s.C.length c_p0_s_3], .row A12 n13 c14 2 1 (ints r10.1)] := hs.join hs1
      clear hs1
      refine sY hf hs rfl rfl rfl (Y_extract rfl rfl rfl) ?_; clear hf; intro a hf
      refine sY hf hs rfl rfl rfl (Y_extract rfl rfl rfl) ?_; clear hf; intro a hf
      refine sY hf hs rfl rfl rfl (Y_assign rfl rfl) ?_; clear hf; intro a hf
      refine sY hf hs rfl rfl rfl (Y_assign rfl rfl) ?_; clear hf; intro a hf
      refine wpO_nil ?_
      obtain rfl := Option.some.inj hm
      refine wpL_ret (ret_tmp2 rfl hf rfl rfl ?_)
      exact ⟨_, rfl, A12, n13, c14, rfl, hn15, hs.sel [1] (by decide)⟩

set_option maxRecDepth 100000 in
theorem spec_l24Response_ok (F : Nat) (p0_s : GSystem) (A_p0_s_1 : Option Addr) (n_p0_s_1 c_p0_s_1 : Nat) (hn_p0_s_1 : n_p0_s_1 = p0_s.A.length) (A_p0_s_2 : Option Addr) (n_p0_s_2 c_p0_s_2 : Nat) (hn_p0_s_2 : n_p0_s_2 = p0_s.B.length) (A_p0_s_3 : Option Addr) (n_p0_s_3 c_p0_s_3 : Nat) (hn_p0_s_3 : n_p0_s_3 = p0_s.C.length) (p1_n : Int) (r : List Int × Bool) (W : World) (hm : spec_l24Response F p0_s p1_n = some r) (h_p0_s_1 : RdM W A_p0_s_1 p0_s.A) (h_p0_s_2 : Rd W A_p0_s_2 (ints p0_s.B)) (h_p0_s_3 : Rd W A_p0_s_3 (ints p0_s.C)) :
    Calls Try.prog 116 [.agg #[.slice A_p0_s_1 n_p0_s_1 c_p0_s_1, .slice A_p0_s_2 n_p0_s_2 c_p0_s_2, .slice A_p0_s_3 n_p0_s_3 c_p0_s_3], .int .i64 p1_n].toArray W fun e w' => ∃ v, e = .returned v ∧ ∃ A165, ∃ n166, ∃ c167, v = .tuple #[.slice A165 n166 c167, .bool r.2] ∧ n166 = r.1.length ∧ St [] W w' [.row A165 n166 c167 2 1 (ints r.1)] := by
  subst hn_p0_s_1
  subst hn_p0_s_2
  subst hn_p0_s_3
  unfold spec_l24Response at hm
  refine Calls.enter (N := 39) Try.func116 rfl rfl rfl (fun a hf => ?_)
  have hs := St.start W
  obtain ⟨w, hw_⟩ : ∃ w, w = W := ⟨W, rfl⟩
  clear hw_ w
  refine wpL_seq ?_
  refine wpL_region ?_
  refine sBox hf hs rfl rfl rfl rfl rfl (cs := [.slice A_p0_s_1 p0_s.A.length c_p0_s_1, .slice A_p0_s_2 p0_s.B.length c_p0_s_2, .slice A_p0_s_3 p0_s.C.length c_p0_s_3]) rfl ?_; clear hf hs; intro a w b1 hs hf
  have hs : St [] W w [.blk b1 27 [.slice A_p0_s_1 p0_s.A.length c_p0_s_1, .slice A_p0_s_2 p0_s.B.length c_p0_s_2, .slice A_p0_s_3 p0_s.C.length c_p0_s_3]] := hs
  refine sY hf hs rfl rfl rfl (Y_assign rfl rfl) ?_; clear hf; intro a hf
  refine sY hf hs rfl rfl rfl (Y_assign rfl rfl) ?_; clear hf; intro a hf
  refine wpO_nil ?_
  refine wpL_seq ?_
  refine wpL_region ?_
  refine sEmpty hf hs rfl rfl rfl rfl el23 ti2 ?_; clear hf hs; intro a w A2 hs hf
  have hs : St [] W w [.blk b1 27 [.slice A_p0_s_1 p0_s.A.length c_p0_s_1, .slice A_p0_s_2 p0_s.B.length c_p0_s_2, .slice A_p0_s_3 p0_s.C.length c_p0_s_3], .row A2 0 0 2 1 (ints ([] : List Int))] := hs
  refine sY hf hs rfl rfl rfl (Y_assign rfl rfl) ?_; clear hf; intro a hf
  refine wpO_nil ?_
  refine wpL_seq ?_
  refine wpL_region ?_
  refine sY hf hs rfl rfl rfl (Y_fieldAddr rfl rfl fo27_1) ?_; clear hf; intro a hf
  refine sY hf hs rfl rfl rfl (Y_load_blk rfl rfl (i := 0) rfl rfl ag23) ?_; clear hf; intro a hf
  refine sY hf hs rfl rfl rfl (Y_assign rfl rfl) ?_; clear hf; intro a hf
  refine wpO_nil ?_
  refine wpL_seq ?_
  refine wpL_seq ?_
  refine wpL_region ?_
  refine sY hf hs rfl rfl rfl (Y_assign rfl rfl) ?_; clear hf; intro a hf
  refine wpO_nil ?_
  obtain ⟨r130, hl131, hm⟩ := bind_some hm
  have hs : St [] W _ [.blk b1 27 [.slice A_p0_s_1 p0_s.A.length c_p0_s_1, .slice A_p0_s_2 p0_s.B.length c_p0_s_2, .slice A_p0_s_3 p0_s.C.length c_p0_s_3], .row A2 0 0 2 1 (ints ([] : List Int)), .row none 0 0 2 1 (ints ([] : List Int))] := hs.addNil 2 1
  refine wpL_block (fun a w => ∃ xs125 : List Int, ∃ A126, ∃ n127, ∃ c128, Sum.inr xs125 = r130 ∧ n127 = xs125.length ∧ Fr a 39 [(6, .slice A126 n127 c128)] ∧ St [] W w [.row A126 n127 c128 2 1 (ints xs125)]) ?_ ?_
  · refine wpL_loop (fun n a w => ∃ xs79 : List Int, ∃ xs84 : List Int, ∃ x95 : Int, ∃ A80, ∃ n81, ∃ c82, ∃ A85, ∃ n86, ∃ c87, ∃ A88, ∃ n89, ∃ c90, ∃ ys91 : List Int, spec_l24Response_L1 F p0_s p1_n n xs79 xs84 x95 = some r130 ∧ n81 = xs79.length ∧ n86 = xs84.length ∧ Ei A_p0_s_2 p0_s.B.length c_p0_s_2 p0_s.B A88 n89 c90 ys91 A85 n86 c87 xs84 ∧ Fr a 39 [(1, .int .i64 p1_n), (2, .pointer (some ⟨b1, 0, none⟩)), (6, .slice A80 n81 c82), (7, .slice A85 n86 c87), (8, .int .i64 x95)] ∧ St [] W w [.blk b1 27 [.slice A_p0_s_1 p0_s.A.length c_p0_s_1, .slice A_p0_s_2 p0_s.B.length c_p0_s_2, .slice A_p0_s_3 p0_s.C.length c_p0_s_3], .row A80 n81 c82 2 1 (ints xs79), .row A88 n89 c90 2 1 (ints ys91)]) F ?_ ?_ ?_
    · exact ⟨([] : List Int), p0_s.B, 0, A2, 0, 0, A_p0_s_2, p0_s.B.length, c_p0_s_2, none, 0, 0, ([] : List Int), hl131, rfl, rfl, (.inl ⟨rfl, rfl, rfl, rfl⟩), (FrD.pick (FrD.pick (FrD.pick (FrD.pick (FrD.pick hf.none hf rfl) hf rfl) hf rfl) hf rfl) hf rfl), hs⟩
    · rintro a w ⟨xs79, xs84, x95, A80, n81, c82, A85, n86, c87, A88, n89, c90, ys91, h0_, -, -, -, -, -⟩; simp [spec_l24Response_L1] at h0_
    · rintro n133 a w ⟨xs79, xs84, x95, A80, n81, c82, A85, n86, c87, A88, n89, c90, ys91, hm132, hn83, hn93, hg92, hf, hs⟩
      rw [spec_l24Response_L1] at hm132
      refine wpL_seq ?_
      refine wpL_seq ?_
      refine wpL_region ?_
      refine sY hf hs rfl rfl rfl (Y_move rfl rfl) ?_; clear hf; intro a hf
      refine sY hf hs rfl rfl rfl (Y_move rfl rfl) ?_; clear hf; intro a hf
      refine sY hf hs rfl rfl rfl (Y_lss rfl rfl rfl) ?_; clear hf; intro a hf
      refine wpO_nil ?_
      refine wpL_cond hf rfl (fun hb134 => ?_) (fun hb134 => ?_)
      · have hm132 := bif_t hm132 hb134
        refine wpL_skip ?_
        refine wpL_seq ?_
        refine wpL_block0 ?_
        refine wpL_seq ?_
        refine wpL_region ?_
        refine sY hf hs rfl rfl rfl (Y_fieldAddr rfl rfl fo27_2) ?_; clear hf; intro a hf
        refine sY hf hs rfl rfl rfl (Y_load_blk rfl rfl (i := 0) rfl rfl ag23) ?_; clear hf; intro a hf
        refine sY hf hs rfl rfl rfl (Y_move rfl rfl) ?_; clear hf; intro a hf
        obtain ⟨r135, hc136, hm132⟩ := bind_some hm132
        refine sCall hf rfl rfl rfl rfl (cap := []) rfl rfl en73 (spec_l24Dot_ok F p0_s.C A_p0_s_3 p0_s.C.length c_p0_s_3 rfl xs84 A85 n86 c87 hn93 _ _ hc136 (h_p0_s_3.at hs) (rdEither (Ei.rd (enc := ints) h_p0_s_2 hg92) hs (hs.rd (i := 2) rfl))) ?_; clear hf
        rintro _ w ⟨rfl, hs1⟩ a hf
        have hs : St [] W w [.blk b1 27 [.slice A_p0_s_1 p0_s.A.length c_p0_s_1, .slice A_p0_s_2 p0_s.B.length c_p0_s_2, .slice A_p0_s_3 p0_s.C.length c_p0_s_3], .row A80 n81 c82 2 1 (ints xs79), .row A88 n89 c90 2 1 (ints ys91)] := hs.ext hs1.below
        clear hs1
        refine sY hf hs rfl rfl rfl (Y_assign rfl rfl) ?_; clear hf; intro a hf
        refine wpO_nil ?_
        refine wpL_seq ?_
        refine wpL_seq ?_
        obtain ⟨r143, hj144, hm132⟩ := bind_some hm132
        refine wpL_cut (fun a w => ∃ b142 : Bool, b142 = r143 ∧ Fr a 39 [(1, .int .i64 p1_n), (2, .pointer (some ⟨b1, 0, none⟩)), (6, .slice A80 n81 c82), (7, .slice A85 n86 c87), (8, .int .i64 x95), (9, .int .i64 r135), (29, .bool b142)] ∧ St [] W w [.blk b1 27 [.slice A_p0_s_1 p0_s.A.length c_p0_s_1, .slice A_p0_s_2 p0_s.B.length c_p0_s_2, .slice A_p0_s_3 p0_s.C.length c_p0_s_3], .row A80 n81 c82 2 1 (ints xs79), .row A88 n89 c90 2 1 (ints ys91)]) ?_ ?_
        · refine wpL_region ?_
          refine sY hf hs rfl rfl rfl (Y_move rfl rfl) ?_; clear hf; intro a hf
          obtain ⟨r145, hc146, hj144⟩ := bind_some hj144
          refine sCall hf rfl rfl rfl rfl (cap := []) rfl rfl en124 (spec_l01All_ok F xs84 A85 n86 c87 hn93 false _ _ hc146 (rdEither (Ei.rd (enc := ints) h_p0_s_2 hg92) hs (hs.rd (i := 2) rfl))) ?_; clear hf
          rintro _ w ⟨rfl, hs1⟩ a hf
          have hs : St [] W w [.blk b1 27 [.slice A_p0_s_1 p0_s.A.length c_p0_s_1, .slice A_p0_s_2 p0_s.B.length c_p0_s_2, .slice A_p0_s_3 p0_s.C.length c_p0_s_3], .row A80 n81 c82 2 1 (ints xs79), .row A88 n89 c90 2 1 (ints ys91)] := hs.ext hs1.below
          clear hs1
          refine sY hf hs rfl rfl rfl (Y_not rfl rfl) ?_; clear hf; intro a hf
          refine sY hf hs rfl rfl rfl (Y_move rfl rfl) ?_; clear hf; intro a hf
          refine bsplit (!r145) (fun hb147 => ?_) (fun hb147 => ?_)
          · have hj144 := bif_t hj144 hb147
            refine sNo hf rfl rfl rfl (congrArg (fun b => some (Value.bool b)) hb147) rfl rfl rfl ?_; clear hf; intro a hf
            refine sNo hf rfl rfl rfl (congrArg (fun b => some (Value.bool b)) hb147) rfl rfl rfl ?_; clear hf; intro a hf
            refine sNo hf rfl rfl rfl (congrArg (fun b => some (Value.bool b)) hb147) rfl rfl rfl ?_; clear hf; intro a hf
            refine sY hf hs rfl rfl rfl (Y_pickT rfl (congrArg (fun b => some (Value.bool b)) hb147) rfl) ?_; clear hf; intro a hf
            refine wpO_nil ?_
            refine wpL_nil (then_normal ?_)
            exact ⟨true, Option.some.inj hj144, (FrD.pick (FrD.pick (FrD.pick (FrD.pick (FrD.pick (FrD.pick (FrD.pick hf.none hf rfl) hf rfl) hf rfl) hf rfl) hf rfl) hf rfl) hf rfl), hs⟩
          · have hj144 := bif_f hj144 hb147
            refine sYg hf hs rfl rfl rfl (congrArg (fun b => some (Value.bool b)) hb147) rfl rfl rfl (Y_move rfl rfl) ?_; clear hf; intro a hf
            obtain ⟨r148, hc149, hj144⟩ := bind_some hj144
            refine sCallg hf rfl rfl rfl (congrArg (fun b => some (Value.bool b)) hb147) rfl rfl rfl rfl (cap := []) rfl rfl en77 (spec_IsValue_ok F r135 _ _ hc149) ?_; clear hf
            rintro _ w ⟨rfl, hs1⟩ a hf
            have hs : St [] W w [.blk b1 27 [.slice A_p0_s_1 p0_s.A.length c_p0_s_1, .slice A_p0_s_2 p0_s.B.length c_p0_s_2, .slice A_p0_s_3 p0_s.C.length c_p0_s_3], .row A80 n81 c82 2 1 (ints xs79), .row A88 n89 c90 2 1 (ints ys91)] := hs.ext hs1.below
            clear hs1
            refine sYg hf hs rfl rfl rfl (congrArg (fun b => some (Value.bool b)) hb147) rfl rfl rfl (Y_not rfl rfl) ?_; clear hf; intro a hf
            refine sY hf hs rfl rfl rfl (Y_pickF rfl (congrArg (fun b => some (Value.bool b)) hb147) rfl) ?_; clear hf; intro a hf
            refine wpO_nil ?_
            refine wpL_nil (then_normal ?_)
            exact ⟨(!r148), Option.some.inj hj144, (FrD.pick (FrD.pick (FrD.pick (FrD.pick (FrD.pick (FrD.pick (FrD.pick hf.none hf rfl) hf rfl) hf rfl) hf rfl) hf rfl) hf rfl) hf rfl), hs⟩
        · rintro a w ⟨b142, hr_, hf, hs⟩
          subst hr_
          try dsimp only at hm132
          refine wpL_cond hf rfl (fun hb150 => ?_) (fun hb150 => ?_)
          · have hm132 := bif_t hm132 hb150
            refine wpL_seq ?_
            refine wpL_region ?_
            refine sY hf hs rfl rfl rfl (Y_assign rfl rfl) ?_; clear hf; intro a hf
            refine sY hf hs rfl rfl rfl (Y_assign rfl rfl) ?_; clear hf; intro a hf
            refine wpO_nil ?_
            have hs : St [] W _ [.blk b1 27 [.slice A_p0_s_1 p0_s.A.length c_p0_s_1, .slice A_p0_s_2 p0_s.B.length c_p0_s_2, .slice A_p0_s_3 p0_s.C.length c_p0_s_3], .row A80 n81 c82 2 1 (ints xs79), .row A88 n89 c90 2 1 (ints ys91), .row none 0 0 2 1 (ints ([] : List Int))] := hs.addNil 2 1
            obtain rfl := Option.some.inj hm132
            try dsimp only at hm
            obtain rfl := Option.some.inj hm
            refine wpL_ret (Qb_ret (Ql_ret (Qb_ret (ret_tmp2 rfl hf rfl rfl ?_))))
            exact ⟨_, rfl, none, 0, 0, rfl, rfl, hs.sel [3] (by decide)⟩
          · have hm132 := bif_f hm132 hb150
            refine wpL_skip ?_
            refine wpL_seq ?_
            refine wpL_region ?_
            refine sY hf hs rfl rfl rfl (Y_move rfl rfl) ?_; clear hf; intro a hf
            refine sY hf hs rfl rfl rfl (Y_move rfl rfl) ?_; clear hf; intro a hf
            refine sBuildSlice (parts := [(0, .tmp 31)]) (vs := [.int .i64 r135]) (cells := [.int .i64 r135]) hf hs rfl rfl rfl rfl rfl el23 ti2 rfl rfl rfl rfl ?_; clear hf hs; intro a w A152 hs hA153 hf
            have hs : St [] W w [.blk b1 27 [.slice A_p0_s_1 p0_s.A.length c_p0_s_1, .slice A_p0_s_2 p0_s.B.length c_p0_s_2, .slice A_p0_s_3 p0_s.C.length c_p0_s_3], .row A80 n81 c82 2 1 (ints xs79), .row A88 n89 c90 2 1 (ints ys91), .row A152 1 1 2 1 (ints ([r135]))] := hs
            obtain ⟨xs156, ha157, hm132⟩ := bind_some hm132
            refine sAppendL (i := 1) (xs := xs79) (ys := [r135]) (enc := ints) hf hs rfl rfl rfl rfl rfl rfl hn83 rfl rfl ha157 el23 ti2 rfl rfl rfl (hs.rd (i := 3) rfl) (Nat.succ_pos _) ints_len1 ints_append ints_one ?_; clear hf hs; intro a w A154 c155 hs hf
            have hs : St [] W w [.blk b1 27 [.slice A_p0_s_1 p0_s.A.length c_p0_s_1, .slice A_p0_s_2 p0_s.B.length c_p0_s_2, .slice A_p0_s_3 p0_s.C.length c_p0_s_3], .row A154 xs156.length c155 2 1 (ints xs156), .row A88 n89 c90 2 1 (ints ys91), .row A152 1 1 2 1 (ints ([r135]))] := hs
            refine sY hf hs rfl rfl rfl (Y_assign rfl rfl) ?_; clear hf; intro a hf
            refine wpO_nil ?_
            refine wpL_region ?_
            refine sY hf hs rfl rfl rfl (Y_fieldAddr rfl rfl fo27_0) ?_; clear hf; intro a hf
            refine sY hf hs rfl rfl rfl (Y_load_blk rfl rfl (i := 0) rfl rfl ag22) ?_; clear hf; intro a hf
            refine sY hf hs rfl rfl rfl (Y_move rfl rfl) ?_; clear hf; intro a hf
            obtain ⟨r158, hc159, hm132⟩ := bind_some hm132
            refine sCall hf rfl rfl rfl rfl (cap := []) rfl rfl en168 (spec_l02Apply_ok F p0_s.A A_p0_s_1 p0_s.A.length c_p0_s_1 rfl xs84 A85 n86 c87 hn93 _ _ hc159 (h_p0_s_1.at hs) (rdEither (Ei.rd (enc := ints) h_p0_s_2 hg92) hs (hs.rd (i := 2) rfl))) ?_; clear hf
            rintro _ w ⟨A160, n161, c162, rfl, hn163, hs1⟩ a hf
            have hs : St [] W w [.blk b1 27 [.slice A_p0_s_1 p0_s.A.length c_p0_s_1, .slice A_p0_s_2 p0_s.B.length c_p0_s_2, .slice A_p0_s_3 p0_s.C.length c_p0_s_3], .row A154 xs156.length c155 2 1 (ints xs156), .row A88 n89 c90 2 1 (ints ys91), .row A152 1 1 2 1 (ints ([r135])), .row A160 n161 c162 2 1 (ints r158)] := hs.join hs1
            clear hs1
            refine sY hf hs rfl rfl rfl (Y_assign rfl rfl) ?_; clear hf; intro a hf
            refine wpO_nil ?_
            refine wpL_nil (Qb_normal ?_)
            refine wpL_region ?_
            refine sY hf hs rfl rfl rfl (Y_move rfl rfl) ?_; clear hf; intro a hf
            refine sY hf hs rfl rfl rfl (Y_add rfl rfl rfl) ?_; clear hf; intro a hf
            refine sY hf hs rfl rfl rfl (Y_assign rfl rfl) ?_; clear hf; intro a hf
            refine wpO_nil ?_
            refine wpL_nil (Ql_normal ?_)
            exact ⟨xs156, r158, (IntKind.i64.wrap (x95 + 1)), A154, xs156.length, c155, A160, n161, c162, A160, n161, c162, r158, hm132, rfl, hn163, (.inr ⟨rfl, rfl, rfl, rfl⟩), (FrD.pick (FrD.pick (FrD.pick (FrD.pick (FrD.pick hf.none hf rfl) hf rfl) hf rfl) hf rfl) hf rfl), hs.sel [0, 1, 4] (by decide)⟩
      · have hm132 := bif_f hm132 hb134
        refine wpL_exit (Ql_exit (Qb_exit ?_))
        exact ⟨xs79, A80, n81, c82, Option.some.inj hm132, hn83, (FrD.pick hf.none hf rfl), hs.sel [1] (by decide)⟩
  · rintro a w ⟨xs125, A126, n127, c128, hr_, hn129, hf, hs⟩
    subst hr_
    try dsimp only at hm
    refine wpL_seq ?_
    refine wpL_region ?_
    refine sY hf hs rfl rfl rfl (Y_move rfl rfl) ?_; clear hf; intro a hf
    refine sY hf hs rfl rfl rfl (Y_assign rfl rfl) ?_; clear hf; intro a hf
    refine sY hf hs rfl rfl rfl (Y_assign rfl rfl) ?_; clear hf; intro a hf
    refine wpO_nil ?_
    obtain rfl := Option.some.inj hm
    refine wpL_ret (ret_tmp2 rfl hf rfl rfl ?_)
    exact ⟨_, rfl, A126, n127, c128, rfl, hn129, hs⟩

set_option maxRecDepth 100000 in
theorem spec_ResponseOf_ok (F : Nat) (p0_s : GSystem) (A_p0_s_1 : Option Addr) (n_p0_s_1 c_p0_s_1 : Nat) (hn_p0_s_1 : n_p0_s_1 = p0_s.A.length) (A_p0_s_2 : Option Addr) (n_p0_s_2 c_p0_s_2 : Nat) (hn_p0_s_2 : n_p0_s_2 = p0_s.B.length) (A_p0_s_3 : Option Addr) (n_p0_s_3 c_p0_s_3 : Nat) (hn_p0_s_3 : n_p0_s_3 = p0_s.C.length) (p1_n : Int) (r : List Int × Int) (W : World) (hm : spec_ResponseOf F p0_s p1_n = some r) (h_p0_s_1 : RdM W A_p0_s_1 p0_s.A) (h_p0_s_2 : Rd W A_p0_s_2 (ints p0_s.B)) (h_p0_s_3 : Rd W A_p0_s_3 (ints p0_s.C)) :
    Calls Try.prog 29 [.agg #[.slice A_p0_s_1 n_p0_s_1 c_p0_s_1, .slice A_p0_s_2 n_p0_s_2 c_p0_s_2, .slice A_p0_s_3 n_p0_s_3 c_p0_s_3], .int .i64 p1_n].toArray W fun e w' => ∃ v, e = .returned v ∧ ∃ A18, ∃ n19, ∃ c20, v = .tuple #[.slice A18 n19 c20, .int .i64 r.2] ∧ n19 = r.1.length ∧ St [] W w' [.row A18 n19 c20 2 1 (ints r.1)] := by
  subst hn_p0_s_1
  subst hn_p0_s_2
  subst hn_p0_s_3
  unfold spec_ResponseOf at hm
  refine Calls.enter (N := 25) Try.func29 rfl rfl rfl (fun a hf => ?_)
  have hs := St.start W
  obtain ⟨w, hw_⟩ : ∃ w, w = W := ⟨W, rfl⟩
  clear hw_ w
  refine wpL_seq ?_
  refine wpL_region ?_
  refine sBox hf hs rfl rfl rfl rfl rfl (cs := [.slice A_p0_s_1 p0_s.A.length c_p0_s_1, .slice A_p0_s_2 p0_s.B.length c_p0_s_2, .slice A_p0_s_3 p0_s.C.length c_p0_s_3]) rfl ?_; clear hf hs; intro a w b1 hs hf
  have hs : St [] W w [.blk b1 27 [.slice A_p0_s_1 p0_s.A.length c_p0_s_1, .slice A_p0_s_2 p0_s.B.length c_p0_s_2, .slice A_p0_s_3 p0_s.C.length c_p0_s_3]] := hs
  refine sY hf hs rfl rfl rfl (Y_assign rfl rfl) ?_; clear hf; intro a hf
  refine sY hf hs rfl rfl rfl (Y_assign rfl rfl) ?_; clear hf; intro a hf
  refine wpO_nil ?_
  refine wpL_seq ?_
  refine wpL_block0 ?_
  refine wpL_seq ?_
  refine wpL_region ?_
  refine sY hf hs rfl rfl rfl (Y_load_blkS rfl rfl (i := 0) rfl ag27 ti27 rfl) ?_; clear hf; intro a hf
  obtain ⟨r2, hc3, hm⟩ := bind_some hm
  refine sCall hf rfl rfl rfl rfl (cap := []) rfl rfl en32 (spec_IsSystem_ok F p0_s A_p0_s_1 p0_s.A.length c_p0_s_1 rfl A_p0_s_2 p0_s.B.length c_p0_s_2 rfl A_p0_s_3 p0_s.C.length c_p0_s_3 rfl _ _ hc3 (h_p0_s_1.at hs) (h_p0_s_2.at hs) (h_p0_s_3.at hs)) ?_; clear hf
  rintro _ w ⟨rfl, hs1⟩ a hf
  have hs : St [] W w [.blk b1 27 [.slice A_p0_s_1 p0_s.A.length c_p0_s_1, .slice A_p0_s_2 p0_s.B.length c_p0_s_2, .slice A_p0_s_3 p0_s.C.length c_p0_s_3]] := hs.ext hs1.below
  clear hs1
  refine sY hf hs rfl rfl rfl (Y_not rfl rfl) ?_; clear hf; intro a hf
  refine sY hf hs rfl rfl rfl (Y_assign rfl rfl) ?_; clear hf; intro a hf
  refine wpO_nil ?_
  refine wpL_cond hf rfl (fun hb4 => ?_) (fun hb4 => ?_)
  · have hm := bif_t hm hb4
    refine wpL_seq ?_
    refine wpL_region ?_
    refine sY hf hs rfl rfl rfl (Y_assign rfl rfl) ?_; clear hf; intro a hf
    refine sY hf hs rfl rfl rfl (Y_assign rfl rfl) ?_; clear hf; intro a hf
    refine wpO_nil ?_
    have hs : St [] W _ [.blk b1 27 [.slice A_p0_s_1 p0_s.A.length c_p0_s_1, .slice A_p0_s_2 p0_s.B.length c_p0_s_2, .slice A_p0_s_3 p0_s.C.length c_p0_s_3], .row none 0 0 2 1 (ints ([] : List Int))] := hs.addNil 2 1
    obtain rfl := Option.some.inj hm
    refine wpL_ret (Qb_ret (ret_tmp2 rfl hf rfl rfl ?_))
    exact ⟨_, rfl, none, 0, 0, rfl, rfl, hs.sel [1] (by decide)⟩
  · have hm := bif_f hm hb4
    refine wpL_seq ?_
    refine wpL_region ?_
    refine sY hf hs rfl rfl rfl (Y_move rfl rfl) ?_; clear hf; intro a hf
    obtain ⟨r6, hc7, hm⟩ := bind_some hm
    refine sCall hf rfl rfl rfl rfl (cap := []) rfl rfl en115 (spec_l01In_ok F p1_n 0 50 _ _ hc7) ?_; clear hf
    rintro _ w ⟨rfl, hs1⟩ a hf
    have hs : St [] W w [.blk b1 27 [.slice A_p0_s_1 p0_s.A.length c_p0_s_1, .slice A_p0_s_2 p0_s.B.length c_p0_s_2, .slice A_p0_s_3 p0_s.C.length c_p0_s_3]] := hs.ext hs1.below
    clear hs1
    refine sY hf hs rfl rfl rfl (Y_not rfl rfl) ?_; clear hf; intro a hf
    refine sY hf hs rfl rfl rfl (Y_assign rfl rfl) ?_; clear hf; intro a hf
    refine wpO_nil ?_
    refine wpL_cond hf rfl (fun hb8 => ?_) (fun hb8 => ?_)
    · have hm := bif_t hm hb8
      refine wpL_seq ?_
      refine wpL_region ?_
      refine sY hf hs rfl rfl rfl (Y_assign rfl rfl) ?_; clear hf; intro a hf
      refine sY hf hs rfl rfl rfl (Y_assign rfl rfl) ?_; clear hf; intro a hf
      refine wpO_nil ?_
      have hs : St [] W _ [.blk b1 27 [.slice A_p0_s_1 p0_s.A.length c_p0_s_1, .slice A_p0_s_2 p0_s.B.length c_p0_s_2, .slice A_p0_s_3 p0_s.C.length c_p0_s_3], .row none 0 0 2 1 (ints ([] : List Int))] := hs.addNil 2 1
      obtain rfl := Option.some.inj hm
      refine wpL_ret (Qb_ret (ret_tmp2 rfl hf rfl rfl ?_))
      exact ⟨_, rfl, none, 0, 0, rfl, rfl, hs.sel [1] (by decide)⟩
    · have hm := bif_f hm hb8
      refine wpL_skip ?_
      refine wpL_nil (Qb_normal ?_)
      refine wpL_seq ?_
      refine wpL_region ?_
      refine sY hf hs rfl rfl rfl (Y_load_blkS rfl rfl (i := 0) rfl ag27 ti27 rfl) ?_; clear hf; intro a hf
      refine sY hf hs rfl rfl rfl (Y_move rfl rfl) ?_; clear hf; intro a hf
      obtain ⟨r10, hc11, hm⟩ := bind_some hm
      refine sCall hf rfl rfl rfl rfl (cap := []) rfl rfl en116 (spec_l24Response_ok F p0_s A_p0_s_1 p0_s.A.length c_p0_s_1 rfl A_p0_s_2 p0_s.B.length c_p0_s_2 rfl A_p0_s_3 p0_s.C.length c_p0_s_3 rfl p1_n _ _ hc11 (h_p0_s_1.at hs) (h_p0_s_2.at hs) (h_p0_s_3.at hs)) ?_; clear hf
      rintro _ w ⟨A12, n13, c14, rfl, hn15, hs1⟩ a hf
      have hs : St [] W w [.blk b1 27 [.slice A_p0_s_1 p0_s.A.length c_p0_s_1, .slice A_p0_s_2 p0_s.B.length c_p0_s_2, .slice A_p0_s_3 p0_s.C.length c_p0_s_3], .row A12 n13 c14 2 1 (ints r10.1)] := hs.join hs1
      clear hs1
      refine sY hf hs rfl rfl rfl (Y_move rfl rfl) ?_; clear hf; intro a hf
      refine sY hf hs rfl rfl rfl (Y_extract rfl rfl rfl) ?_; clear hf; intro a hf
      refine sY hf hs rfl rfl rfl (Y_extract rfl rfl rfl) ?_; clear hf; intro a hf
      refine sY hf hs rfl rfl rfl (Y_assign rfl rfl) ?_; clear hf; intro a hf
      refine sY hf hs rfl rfl rfl (Y_assign rfl rfl) ?_; clear hf; intro a hf
      refine wpO_nil ?_
      refine wpL_seq ?_
      refine wpL_seq ?_
      refine wpL_region ?_
      refine sY hf hs rfl rfl rfl (Y_move rfl rfl) ?_; clear hf; intro a hf
      refine sY hf hs rfl rfl rfl (Y_not rfl rfl) ?_; clear hf; intro a hf
      refine wpO_nil ?_
      refine wpL_cond hf rfl (fun hb16 => ?_) (fun hb16 => ?_)
      · have hm := bif_t hm hb16
        refine wpL_seq ?_
        refine wpL_region ?_
        refine sY hf hs rfl rfl rfl (Y_assign rfl rfl) ?_; clear hf; intro a hf
        refine sY hf hs rfl rfl rfl (Y_assign rfl rfl) ?_; clear hf; intro a hf
        refine wpO_nil ?_
        have hs : St [] W _ [.blk b1 27 [.slice A_p0_s_1 p0_s.A.length c_p0_s_1, .slice A_p0_s_2 p0_s.B.length c_p0_s_2, .slice A_p0_s_3 p0_s.C.length c_p0_s_3], .row A12 n13 c14 2 1 (ints r10.1), .row none 0 0 2 1 (ints ([] : List Int))] := hs.addNil 2 1
        obtain rfl := Option.some.inj hm
        refine wpL_ret (ret_tmp2 rfl hf rfl rfl ?_)
        exact ⟨_, rfl, none, 0, 0, rfl, rfl, hs.sel [2] (by decide)⟩
      · have hm := bif_f hm hb16
        refine wpL_skip ?_
        refine wpL_seq ?_
        refine wpL_region ?_
        refine sY hf hs rfl rfl rfl (Y_move rfl rfl) ?_; clear hf; intro a hf
        refine sY hf hs rfl rfl rfl (Y_assign rfl rfl) ?_; clear hf; intro a hf
        refine sY hf hs rfl rfl rfl (Y_assign rfl rfl) ?_; clear hf; intro a hf
        refine wpO_nil ?_
        obtain rfl := Option.some.inj hm
        refine wpL_ret (ret_tmp2 rfl hf rfl rfl ?_)
        exact ⟨_, rfl, A12, n13, c14, rfl, hn15, hs.sel [1] (by decide)⟩

set_option maxRecDepth 100000 in
theorem laws_likeInts_ok (F : Nat) (p0_a : List Int) (A_p0_a_1 : Option Addr) (n_p0_a_1 c_p0_a_1 : Nat) (hn_p0_a_1 : n_p0_a_1 = p0_a.length) (p1_b : List Int) (A_p1_b_1 : Option Addr) (n_p1_b_1 c_p1_b_1 : Nat) (hn_p1_b_1 : n_p1_b_1 = p1_b.length) (r : Bool) (W : World) (hm : laws_likeInts F p0_a p1_b = some r) (h_p0_a_1 : Rd W A_p0_a_1 (ints p0_a)) (h_p1_b_1 : Rd W A_p1_b_1 (ints p1_b)) :
    Calls Try.prog 30 [.slice A_p0_a_1 n_p0_a_1 c_p0_a_1, .slice A_p1_b_1 n_p1_b_1 c_p1_b_1].toArray W fun e w' => ∃ v, e = .returned v ∧ v = .bool r ∧ St [] W w' [] := by
  subst hn_p0_a_1
  subst hn_p1_b_1
  unfold laws_likeInts at hm
  refine Calls.enter (N := 26) Try.func30 rfl rfl rfl (fun a hf => ?_)
  have hs := St.start W
  obtain ⟨w, hw_⟩ : ∃ w, w = W := ⟨W, rfl⟩
  clear hw_ w
  refine wpL_seq ?_
  refine wpL_region ?_
  refine sY hf hs rfl rfl rfl (Y_assign rfl rfl) ?_; clear hf; intro a hf
  refine wpO_nil ?_
  refine wpL_seq ?_
  refine wpL_seq ?_
  refine wpL_region ?_
  refine sY hf hs rfl rfl rfl (Y_move rfl rfl) ?_; clear hf; intro a hf
  refine sY hf hs rfl rfl rfl (Y_lenH rfl rfl el23 rfl) ?_; clear hf; intro a hf
  refine sY hf hs rfl rfl rfl (Y_move rfl rfl) ?_; clear hf; intro a hf
  refine sY hf hs rfl rfl rfl (Y_lenH rfl rfl el23 rfl) ?_; clear hf; intro a hf
  refine sY hf hs rfl rfl rfl (Y_neq rfl rfl rfl) ?_; clear hf; intro a hf
  refine wpO_nil ?_
  refine wpL_cond hf rfl (fun hb1 => ?_) (fun hb1 => ?_)
  · have hm := bif_t hm hb1
    refine wpL_seq ?_
    refine wpL_region ?_
    refine sY hf hs rfl rfl rfl (Y_assign rfl rfl) ?_; clear hf; intro a hf
    refine wpO_nil ?_
    obtain rfl := Option.some.inj hm
    refine wpL_ret (ret_tmp rfl hf rfl ?_)
    exact ⟨_, rfl, rfl, hs⟩
  · have hm := bif_f hm hb1
    refine wpL_skip ?_
    refine wpL_seq ?_
    refine wpL_seq ?_
    refine wpL_region ?_
    refine sY hf hs rfl rfl rfl (Y_assign rfl rfl) ?_; clear hf; intro a hf
    refine wpO_nil ?_
    obtain ⟨r22, hl23, hm⟩ := bind_some hm
    refine wpL_block (fun a w => Sum.inr () = r22 ∧ Fr a 26 [] ∧ St [] W w []) ?_ ?_
    · refine wpL_loop (fun n a w => ∃ x15 : Int, laws_likeInts_L1 F p0_a p1_b n x15 = some r22 ∧ Fr a 26 [(0, .slice A_p0_a_1 p0_a.length c_p0_a_1), (1, .slice A_p1_b_1 p1_b.length c_p1_b_1), (5, .int .i64 x15)] ∧ St [] W w []) F ?_ ?_ ?_
      · exact ⟨0, hl23, (FrD.pick (FrD.pick (FrD.pick hf.none hf rfl) hf rfl) hf rfl), hs⟩
      · rintro a w ⟨x15, h0_, -, -⟩; simp [laws_likeInts_L1] at h0_
      · rintro n25 a w ⟨x15, hm24, hf, hs⟩
        rw [laws_likeInts_L1] at hm24
        refine wpL_seq ?_
        refine wpL_seq ?_
        refine wpL_region ?_
        refine sY hf hs rfl rfl rfl (Y_move rfl rfl) ?_; clear hf; intro a hf
        refine sY hf hs rfl rfl rfl (Y_move rfl rfl) ?_; clear hf; intro a hf
        refine sY hf hs rfl rfl rfl (Y_lenH rfl rfl el23 rfl) ?_; clear hf; intro a hf
        refine sY hf hs rfl rfl rfl (Y_lss rfl rfl rfl) ?_; clear hf; intro a hf
        refine wpO_nil ?_
        refine wpL_cond hf rfl (fun hb26 => ?_) (fun hb26 => ?_)
        · have hm24 := bif_t hm24 hb26
          refine wpL_skip ?_
          refine wpL_seq ?_
          refine wpL_block0 ?_
          refine wpL_seq ?_
          refine wpL_draw (by kernel_rfl) (by kernel_rfl) hs ?_
          refine qY hf rfl rfl rfl (Y_move rfl rfl) ?_; clear hf; intro a hf
          refine qY hf rfl rfl rfl (Y_move rfl rfl) ?_; clear hf; intro a hf
          obtain ⟨q27, hi28, hm24⟩ := bind_some hm24
          obtain ⟨hi28a, hi28b, hi28q⟩ := idx_some hi28
          refine qY hf rfl rfl rfl (Y_index rfl rfl rfl el23 ti2 (Rd.isAt (h_p0_a_1.at hs) (at1 (ints_at hi28q))) hi28a hi28b) ?_; clear hf; intro a hf
          refine qY hf rfl rfl rfl (Y_load_rd rfl rfl (fun w hs => h_p0_a_1.at hs) (at1 (ints_at hi28q)) ag2) ?_; clear hf; intro a hf
          refine qY hf rfl rfl rfl (Y_move rfl rfl) ?_; clear hf; intro a hf
          refine qY hf rfl rfl rfl (Y_move rfl rfl) ?_; clear hf; intro a hf
          obtain ⟨q29, hi30, hm24⟩ := bind_some hm24
          obtain ⟨hi30a, hi30b, hi30q⟩ := idx_some hi30
          refine qY hf rfl rfl rfl (Y_index rfl rfl rfl el23 ti2 (Rd.isAt (h_p1_b_1.at hs) (at1 (ints_at hi30q))) hi30a hi30b) ?_; clear hf; intro a hf
          refine qY hf rfl rfl rfl (Y_load_rd rfl rfl (fun w hs => h_p1_b_1.at hs) (at1 (ints_at hi30q)) ag2) ?_; clear hf; intro a hf
          refine qY hf rfl rfl rfl (Y_neq rfl rfl rfl) ?_; clear hf; intro a hf
          refine qNil ?_; clear hs; intro w hs
          refine wpL_cond hf rfl (fun hb31 => ?_) (fun hb31 => ?_)
          · have hm24 := bif_t hm24 hb31
            refine wpL_seq ?_
            refine wpL_region ?_
            refine sY hf hs rfl rfl rfl (Y_assign rfl rfl) ?_; clear hf; intro a hf
            refine wpO_nil ?_
            obtain rfl := Option.some.inj hm24
            try dsimp only at hm
            obtain rfl := Option.some.inj hm
            refine wpL_ret (Qb_ret (Ql_ret (Qb_ret (ret_tmp rfl hf rfl ?_))))
            exact ⟨_, rfl, rfl, hs⟩
          · have hm24 := bif_f hm24 hb31
            refine wpL_skip ?_
            refine wpL_nil (Qb_normal ?_)
            refine wpL_region ?_
            refine sY hf hs rfl rfl rfl (Y_move rfl rfl) ?_; clear hf; intro a hf
            refine sY hf hs rfl rfl rfl (Y_add rfl rfl rfl) ?_; clear hf; intro a hf
            refine sY hf hs rfl rfl rfl (Y_assign rfl rfl) ?_; clear hf; intro a hf
            refine wpO_nil ?_
            refine wpL_nil (Ql_normal ?_)
            exact ⟨(IntKind.i64.wrap (x15 + 1)), hm24, (FrD.pick (FrD.pick (FrD.pick hf.none hf rfl) hf rfl) hf rfl), hs⟩
        · have hm24 := bif_f hm24 hb26
          refine wpL_exit (Ql_exit (Qb_exit ?_))
          exact ⟨Option.some.inj hm24, hf.none, hs⟩
    · rintro a w ⟨hr_, hf, hs⟩
      subst hr_
      try dsimp only at hm
      refine wpL_seq ?_
      refine wpL_region ?_
      refine sY hf hs rfl rfl rfl (Y_assign rfl rfl) ?_; clear hf; intro a hf
      refine wpO_nil ?_
      obtain rfl := Option.some.inj hm
      refine wpL_ret (ret_tmp rfl hf rfl ?_)
      exact ⟨_, rfl, rfl, hs⟩

set_option maxRecDepth 100000 in
theorem laws_roll_ok (F : Nat) (p0_code : List Int) (A_p0_code_1 : Option Addr) (n_p0_code_1 c_p0_code_1 : Nat) (hn_p0_code_1 : n_p0_code_1 = p0_code.length) (p1_seed : Int) (r : (Int × Int)) (W : World) (hm : laws_roll F p0_code p1_seed = some r) (h_p0_code_1 : Rd W A_p0_code_1 (bytes p0_code)) :
    Calls Try.prog 33 [.slice A_p0_code_1 n_p0_code_1 c_p0_code_1, .int .u64 p1_seed].toArray W fun e w' => ∃ v, e = .returned v ∧ ∃ b23, v = .pointer (some ⟨b23, 0, none⟩) ∧ St [] W w' [.blk b23 119 [.slice A_p0_code_1 n_p0_code_1 c_p0_code_1, .int .i64 r.1, .int .u64 r.2]] := by
  subst hn_p0_code_1
  unfold laws_roll at hm
  refine Calls.enter (N := 38) Try.func33 rfl rfl rfl (fun a hf => ?_)
  have hs := St.start W
  obtain ⟨w, hw_⟩ : ∃ w, w = W := ⟨W, rfl⟩
  clear hw_ w
  refine wpL_seq ?_
  refine wpL_region ?_
  refine sY hf hs rfl rfl rfl (Y_assign rfl rfl) ?_; clear hf; intro a hf
  refine wpO_nil ?_
  refine wpL_seq ?_
  refine wpL_region ?_
  refine sY hf hs rfl rfl rfl (Y_move rfl rfl) ?_; clear hf; intro a hf
  refine sY hf hs rfl rfl rfl (Y_move rfl rfl) ?_; clear hf; intro a hf
  refine sY hf hs rfl rfl rfl (Y_mul rfl rfl rfl) ?_; clear hf; intro a hf
  refine sY hf hs rfl rfl rfl (Y_move rfl rfl) ?_; clear hf; intro a hf
  refine sY hf hs rfl rfl rfl (Y_lenH rfl rfl el34 rfl) ?_; clear hf; intro a hf
  refine sY hf hs rfl rfl rfl (Y_convert rfl rfl un3 un48) ?_; clear hf; intro a hf
  refine sY hf hs rfl rfl rfl (Y_add rfl rfl rfl) ?_; clear hf; intro a hf
  refine sY hf hs rfl rfl rfl (Y_build (parts := [(0, .tmp 7), (2, .tmp 13)]) (vs := [.slice A_p0_code_1 p0_code.length c_p0_code_1, .int .u64 (IntKind.u64.wrap ((IntKind.u64.wrap (p1_seed * 9103)) + (IntKind.u64.wrap (p0_code.length : Int))))]) rfl rfl (run_build (parts := [(0, .slice A_p0_code_1 p0_code.length c_p0_code_1), (2, .int .u64 (IntKind.u64.wrap ((IntKind.u64.wrap (p1_seed * 9103)) + (IntKind.u64.wrap (p0_code.length : Int)))))]) (cells := [.slice A_p0_code_1 p0_code.length c_p0_code_1, .int .i64 0, .int .u64 (IntKind.u64.wrap ((IntKind.u64.wrap (p1_seed * 9103)) + (IntKind.u64.wrap (p0_code.length : Int))))]) (places := #[(0, 1), (1, 1), (2, 1)]) ti119 Try.underlying119 (fun w => by simp [go_sem]) rfl)) ?_; clear hf; intro a hf
  refine sBox hf hs rfl rfl rfl rfl rfl (cs := [.slice A_p0_code_1 p0_code.length c_p0_code_1, .int .i64 0, .int .u64 (IntKind.u64.wrap ((IntKind.u64.wrap (p1_seed * 9103)) + (IntKind.u64.wrap (p0_code.length : Int))))]) rfl ?_; clear hf hs; intro a w b1 hs hf
  have hs : St [] W w [.blk b1 119 [.slice A_p0_code_1 p0_code.length c_p0_code_1, .int .i64 0, .int .u64 (IntKind.u64.wrap ((IntKind.u64.wrap (p1_seed * 9103)) + (IntKind.u64.wrap (p0_code.length : Int))))]] := hs
  refine sY hf hs rfl rfl rfl (Y_assign rfl rfl) ?_; clear hf; intro a hf
  refine wpO_nil ?_
  refine wpL_seq ?_
  refine wpL_seq ?_
  refine wpL_region ?_
  refine sY hf hs rfl rfl rfl (Y_assign rfl rfl) ?_; clear hf; intro a hf
  refine wpO_nil ?_
  obtain ⟨r16, hl17, hm⟩ := bind_some hm
  refine wpL_block (fun a w => ∃ x15 : Int, x15 = r16 ∧ Fr a 38 [(5, .pointer (some ⟨b1, 0, none⟩))] ∧ St [] W w [.blk b1 119 [.slice A_p0_code_1 p0_code.length c_p0_code_1, .int .i64 0, .int .u64 x15]]) ?_ ?_
  · refine wpL_loop (fun n a w => ∃ x10 : Int, ∃ x11 : Int, laws_roll_L1 F p0_code n x10 x11 = some r16 ∧ Fr a 38 [(0, .slice A_p0_code_1 p0_code.length c_p0_code_1), (5, .pointer (some ⟨b1, 0, none⟩)), (6, .int .i64 x11)] ∧ St [] W w [.blk b1 119 [.slice A_p0_code_1 p0_code.length c_p0_code_1, .int .i64 0, .int .u64 x10]]) F ?_ ?_ ?_
    · exact ⟨(IntKind.u64.wrap ((IntKind.u64.wrap (p1_seed * 9103)) + (IntKind.u64.wrap (p0_code.length : Int)))), 0, hl17, (FrD.pick (FrD.pick (FrD.pick hf.none hf rfl) hf rfl) hf rfl), hs⟩
    · rintro a w ⟨x10, x11, h0_, -, -⟩; simp [laws_roll_L1] at h0_
    · rintro n19 a w ⟨x10, x11, hm18, hf, hs⟩
      rw [laws_roll_L1] at hm18
      refine wpL_seq ?_
      refine wpL_seq ?_
      refine wpL_region ?_
      refine sY hf hs rfl rfl rfl (Y_move rfl rfl) ?_; clear hf; intro a hf
      refine sY hf hs rfl rfl rfl (Y_move rfl rfl) ?_; clear hf; intro a hf
      refine sY hf hs rfl rfl rfl (Y_lenH rfl rfl el34 rfl) ?_; clear hf; intro a hf
      refine sY hf hs rfl rfl rfl (Y_lss rfl rfl rfl) ?_; clear hf; intro a hf
      refine wpO_nil ?_
      refine wpL_cond hf rfl (fun hb20 => ?_) (fun hb20 => ?_)
      · have hm18 := bif_t hm18 hb20
        refine wpL_skip ?_
        refine wpL_seq ?_
        refine wpL_block0 ?_
        refine wpL_drawM [.blk b1 119 [.slice A_p0_code_1 p0_code.length c_p0_code_1, .int .i64 0, .int .u64 x10]] [15] (by kernel_rfl) hs ?_; clear hs; intro w hs
        have hs0 : St [] W w [.blk b1 119 [.slice A_p0_code_1 p0_code.length c_p0_code_1, .int .i64 0, .int .u64 x10]] := hs
        refine mYp (i := 0) rfl (by kernel_rfl) (by kernel_rfl) hf rfl rfl rfl (fun _ => Y_move rfl rfl) ?_; clear hf; intro a hf
        refine mYp (i := 1) rfl (by kernel_rfl) (by kernel_rfl) hf rfl rfl rfl (fun _ => Y_move rfl rfl) ?_; clear hf; intro a hf
        refine mYp (i := 2) rfl (by kernel_rfl) (by kernel_rfl) hf rfl rfl rfl (fun _ => Y_nilCheck rfl rfl) ?_; clear hf; intro a hf
        refine mYp (i := 3) rfl (by kernel_rfl) (by kernel_rfl) hf rfl rfl rfl (fun _ => Y_fieldAddr rfl rfl fo119_2) ?_; clear hf; intro a hf
        refine mY (i := 4) [[]] rfl (by kernel_rfl) (by kernel_rfl) hf hs0 rfl rfl rfl (Y_load_blk rfl rfl (i := 0) rfl rfl ag48) ?_; clear hf; intro a hf
        refine mYp (i := 5) rfl (by kernel_rfl) (by kernel_rfl) hf rfl rfl rfl (fun _ => Y_mul rfl rfl rfl) ?_; clear hf; intro a hf
        refine mYp (i := 6) rfl (by kernel_rfl) (by kernel_rfl) hf rfl rfl rfl (fun _ => Y_move rfl rfl) ?_; clear hf; intro a hf
        refine mYp (i := 7) rfl (by kernel_rfl) (by kernel_rfl) hf rfl rfl rfl (fun _ => Y_move rfl rfl) ?_; clear hf; intro a hf
        obtain ⟨q21, hi22, hm18⟩ := bind_some hm18
        obtain ⟨hi22a, hi22b, hi22q⟩ := idx_some hi22
        refine mYp (i := 8) rfl (by kernel_rfl) (by kernel_rfl) hf rfl rfl rfl (fun _ => Y_index rfl rfl rfl el34 ti5 (Rd.isAt (h_p0_code_1.at hs) (at1 (bytes_at hi22q))) hi22a hi22b) ?_; clear hf; intro a hf
        refine mY (i := 9) [[]] rfl (by kernel_rfl) (by kernel_rfl) hf hs0 rfl rfl rfl (Y_load_rd rfl rfl (fun w hs => h_p0_code_1.at hs) (at1 (bytes_at hi22q)) ag5) ?_; clear hf; intro a hf
        refine mY (i := 10) [[]] rfl (by kernel_rfl) (by kernel_rfl) hf hs0 rfl rfl rfl (Y_convert rfl rfl un5 un48) ?_; clear hf; intro a hf
        refine mYp (i := 11) rfl (by kernel_rfl) (by kernel_rfl) hf rfl rfl rfl (fun _ => Y_add rfl rfl rfl) ?_; clear hf; intro a hf
        refine mYp (i := 12) rfl (by kernel_rfl) (by kernel_rfl) hf rfl rfl rfl (fun _ => Y_add rfl rfl rfl) ?_; clear hf; intro a hf
        refine mYp (i := 13) rfl (by kernel_rfl) (by kernel_rfl) hf rfl rfl rfl (fun _ => Y_nilCheck rfl rfl) ?_; clear hf; intro a hf
        refine mYp (i := 14) rfl (by kernel_rfl) (by kernel_rfl) hf rfl rfl rfl (fun _ => Y_fieldAddr rfl rfl fo119_2) ?_; clear hf; intro a hf
        refine mRun (i := 15) rfl (by kernel_rfl) ?_
        refine sStore (i := 0) (us := [.int .u64 (IntKind.u64.wrap ((IntKind.u64.wrap ((IntKind.u64.wrap (x10 * 1099511628211)) + (IntKind.u64.wrap q21))) + 5))]) hf hs rfl rfl rfl rfl rfl rfl ti48 rfl rfl rfl (Nat.le_of_ble_eq_true rfl) rfl ?_; clear hs; intro w hs
        have hs : St [] W w [.blk b1 119 [.slice A_p0_code_1 p0_code.length c_p0_code_1, .int .i64 0, .int .u64 (IntKind.u64.wrap ((IntKind.u64.wrap ((IntKind.u64.wrap (x10 * 1099511628211)) + (IntKind.u64.wrap q21))) + 5))]] := hs
        refine wpO_nil ⟨Or.inl (by decide), ?_⟩
        refine mDone (by kernel_rfl) ?_
        clear hs0
        refine wpL_nil (Qb_normal ?_)
        refine wpL_region ?_
        refine sY hf hs rfl rfl rfl (Y_move rfl rfl) ?_; clear hf; intro a hf
        refine sY hf hs rfl rfl rfl (Y_add rfl rfl rfl) ?_; clear hf; intro a hf
        refine sY hf hs rfl rfl rfl (Y_assign rfl rfl) ?_; clear hf; intro a hf
        refine wpO_nil ?_
        refine wpL_nil (Ql_normal ?_)
        exact ⟨(IntKind.u64.wrap ((IntKind.u64.wrap ((IntKind.u64.wrap (x10 * 1099511628211)) + (IntKind.u64.wrap q21))) + 5)), (IntKind.i64.wrap (x11 + 1)), hm18, (FrD.pick (FrD.pick (FrD.pick hf.none hf rfl) hf rfl) hf rfl), hs⟩
      · have hm18 := bif_f hm18 hb20
        refine wpL_exit (Ql_exit (Qb_exit ?_))
        exact ⟨x10, Option.some.inj hm18, (FrD.pick hf.none hf rfl), hs⟩
  · rintro a w ⟨x15, hr_, hf, hs⟩
    subst hr_
    try dsimp only at hm
    refine wpL_seq ?_
    refine wpL_region ?_
    refine sY hf hs rfl rfl rfl (Y_move rfl rfl) ?_; clear hf; intro a hf
    refine sY hf hs rfl rfl rfl (Y_assign rfl rfl) ?_; clear hf; intro a hf
    refine wpO_nil ?_
    obtain rfl := Option.some.inj hm
    refine wpL_ret (ret_tmp rfl hf rfl ?_)
    exact ⟨_, rfl, b1, rfl, hs⟩

set_option maxRecDepth 100000 in
theorem laws_dice_below_ok (F : Nat) (b_p0_d : Nat) (p0_d_b : List Int) (A_p0_d_b : Option Addr) (n_p0_d_b c_p0_d_b : Nat) (hn_p0_d_b : n_p0_d_b = p0_d_b.length) (p0_d_i : Int) (p0_d_h : Int) (p1_n : Int) (r : (Int) × Int × Int) (W : World) (hm : laws_dice_below F p0_d_b p0_d_i p0_d_h p1_n = some r) (h_p0_d_b : KR (muL [.blk b_p0_d 119 [.slice A_p0_d_b n_p0_d_b c_p0_d_b, .int .i64 p0_d_i, .int .u64 p0_d_h]]) W A_p0_d_b (bytes p0_d_b)) (hst : St (muL [.blk b_p0_d 119 [.slice A_p0_d_b n_p0_d_b c_p0_d_b, .int .i64 p0_d_i, .int .u64 p0_d_h]]) W W [.blk b_p0_d 119 [.slice A_p0_d_b n_p0_d_b c_p0_d_b, .int .i64 p0_d_i, .int .u64 p0_d_h]]) :
    Calls Try.prog 34 [.pointer (some ⟨b_p0_d, 0, none⟩), .int .i64 p1_n].toArray W fun e w' => ∃ v, e = .returned v ∧ v = .int .i64 r.1 ∧ St (muL [.blk b_p0_d 119 [.slice A_p0_d_b n_p0_d_b c_p0_d_b, .int .i64 p0_d_i, .int .u64 p0_d_h]]) W w' [.blk b_p0_d 119 [.slice A_p0_d_b n_p0_d_b c_p0_d_b, .int .i64 r.2.1, .int .u64 r.2.2]] := by
  subst hn_p0_d_b
  unfold laws_dice_below at hm
  refine Calls.enter (N := 56) Try.func34 rfl rfl rfl (fun a hf => ?_)
  have hs := hst
  obtain ⟨w, hw_⟩ : ∃ w, w = W := ⟨W, rfl⟩
  clear hw_ w
  refine wpL_seq ?_
  refine wpL_region ?_
  refine sY hf hs rfl rfl rfl (Y_assign rfl rfl) ?_; clear hf; intro a hf
  refine wpO_nil ?_
  refine wpL_seq ?_
  refine wpL_region ?_
  refine sY hf hs rfl rfl rfl (Y_move rfl rfl) ?_; clear hf; intro a hf
  refine sY hf hs rfl rfl rfl (Y_move rfl rfl) ?_; clear hf; intro a hf
  refine sY hf hs rfl rfl rfl (Y_nilCheck rfl rfl) ?_; clear hf; intro a hf
  refine sY hf hs rfl rfl rfl (Y_fieldAddr rfl rfl fo119_2) ?_; clear hf; intro a hf
  refine sY hf hs rfl rfl rfl (Y_load_blk rfl rfl (i := 0) rfl rfl ag48) ?_; clear hf; intro a hf
  refine sY hf hs rfl rfl rfl (Y_mul rfl rfl rfl) ?_; clear hf; intro a hf
  refine sY hf hs rfl rfl rfl (Y_add rfl rfl rfl) ?_; clear hf; intro a hf
  refine sY hf hs rfl rfl rfl (Y_nilCheck rfl rfl) ?_; clear hf; intro a hf
  refine sY hf hs rfl rfl rfl (Y_fieldAddr rfl rfl fo119_2) ?_; clear hf; intro a hf
  refine sStore (i := 0) (us := [.int .u64 (IntKind.u64.wrap ((IntKind.u64.wrap (p0_d_h * 6364136223846793005)) + 1442695040888963407))]) hf hs rfl rfl rfl rfl rfl rfl ti48 rfl rfl rfl (Nat.le_of_ble_eq_true rfl) rfl ?_; clear hs; intro w hs
  have hs : St (muL [.blk b_p0_d 119 [.slice A_p0_d_b p0_d_b.length c_p0_d_b, .int .i64 p0_d_i, .int .u64 p0_d_h]]) W w [.blk b_p0_d 119 [.slice A_p0_d_b p0_d_b.length c_p0_d_b, .int .i64 p0_d_i, .int .u64 (IntKind.u64.wrap ((IntKind.u64.wrap (p0_d_h * 6364136223846793005)) + 1442695040888963407))]] := hs
  refine wpO_nil ?_
  refine wpL_seq ?_
  refine wpL_region ?_
  refine sY hf hs rfl rfl rfl (Y_move rfl rfl) ?_; clear hf; intro a hf
  refine sY hf hs rfl rfl rfl (Y_nilCheck rfl rfl) ?_; clear hf; intro a hf
  refine sY hf hs rfl rfl rfl (Y_fieldAddr rfl rfl fo119_2) ?_; clear hf; intro a hf
  refine sY hf hs rfl rfl rfl (Y_load_blk rfl rfl (i := 0) rfl rfl ag48) ?_; clear hf; intro a hf
  refine sY hf hs rfl rfl rfl (Y_shr rfl rfl rfl (by decide) (by decide)) ?_; clear hf; intro a hf
  refine sY hf hs rfl rfl rfl (Y_and rfl rfl rfl) ?_; clear hf; intro a hf
  refine sY hf hs rfl rfl rfl (Y_convert rfl rfl un48 un2) ?_; clear hf; intro a hf
  refine sY hf hs rfl rfl rfl (Y_assign rfl rfl) ?_; clear hf; intro a hf
  refine wpO_nil ?_
  refine wpL_seq ?_
  refine wpL_seq ?_
  refine wpL_draw (by kernel_rfl) (by kernel_rfl) hs ?_
  refine qY hf rfl rfl rfl (Y_move rfl rfl) ?_; clear hf; intro a hf
  refine qY hf rfl rfl rfl (Y_nilCheck rfl rfl) ?_; clear hf; intro a hf
  refine qY hf rfl rfl rfl (Y_fieldAddr rfl rfl fo119_1) ?_; clear hf; intro a hf
  refine qY hf rfl rfl rfl (Y_load_blk rfl rfl (i := 0) rfl rfl ag3) ?_; clear hf; intro a hf
  refine qY hf rfl rfl rfl (Y_move rfl rfl) ?_; clear hf; intro a hf
  refine qY hf rfl rfl rfl (Y_nilCheck rfl rfl) ?_; clear hf; intro a hf
  refine qY hf rfl rfl rfl (Y_fieldAddr rfl rfl fo119_0) ?_; clear hf; intro a hf
  refine qY hf rfl rfl rfl (Y_load_blk rfl rfl (i := 0) rfl rfl ag34) ?_; clear hf; intro a hf
  refine qY hf rfl rfl rfl (Y_lenH rfl rfl el34 rfl) ?_; clear hf; intro a hf
  refine qY hf rfl rfl rfl (Y_lss rfl rfl rfl) ?_; clear hf; intro a hf
  refine qNil ?_; clear hs; intro w hs
  obtain ⟨r6, hj7, hm⟩ := bind_some hm
  refine wpL_cut (fun a w => ∃ x4 : Int, ∃ x5 : Int, (x4, x5) = r6 ∧ Fr a 56 [(1, .int .i64 p1_n), (5, .int .i64 x5)] ∧ St (muL [.blk b_p0_d 119 [.slice A_p0_d_b p0_d_b.length c_p0_d_b, .int .i64 p0_d_i, .int .u64 p0_d_h]]) W w [.blk b_p0_d 119 [.slice A_p0_d_b p0_d_b.length c_p0_d_b, .int .i64 x4, .int .u64 (IntKind.u64.wrap ((IntKind.u64.wrap (p0_d_h * 6364136223846793005)) + 1442695040888963407))]]) ?_ ?_
  · refine wpL_cond hf rfl (fun hb8 => ?_) (fun hb8 => ?_)
    · have hj7 := bif_t hj7 hb8
      refine wpL_seq ?_
      refine wpL_draw (by kernel_rfl) (by kernel_rfl) hs ?_
      refine qY hf rfl rfl rfl (Y_move rfl rfl) ?_; clear hf; intro a hf
      refine qY hf rfl rfl rfl (Y_move rfl rfl) ?_; clear hf; intro a hf
      refine qY hf rfl rfl rfl (Y_nilCheck rfl rfl) ?_; clear hf; intro a hf
      refine qY hf rfl rfl rfl (Y_fieldAddr rfl rfl fo119_0) ?_; clear hf; intro a hf
      refine qY hf rfl rfl rfl (Y_load_blk rfl rfl (i := 0) rfl rfl ag34) ?_; clear hf; intro a hf
      refine qY hf rfl rfl rfl (Y_move rfl rfl) ?_; clear hf; intro a hf
      refine qY hf rfl rfl rfl (Y_nilCheck rfl rfl) ?_; clear hf; intro a hf
      refine qY hf rfl rfl rfl (Y_fieldAddr rfl rfl fo119_1) ?_; clear hf; intro a hf
      refine qY hf rfl rfl rfl (Y_load_blk rfl rfl (i := 0) rfl rfl ag3) ?_; clear hf; intro a hf
      obtain ⟨q9, hi10, hj7⟩ := bind_some hj7
      obtain ⟨hi10a, hi10b, hi10q⟩ := idx_some hi10
      refine qY hf rfl rfl rfl (Y_index rfl rfl rfl el34 ti5 (Rd.isAt (h_p0_d_b.at hs) (at1 (bytes_at hi10q))) hi10a hi10b) ?_; clear hf; intro a hf
      refine qY hf rfl rfl rfl (Y_load_rd rfl rfl (fun w hs => h_p0_d_b.at hs) (at1 (bytes_at hi10q)) ag5) ?_; clear hf; intro a hf
      refine qY hf rfl rfl rfl (Y_convert rfl rfl un5 un2) ?_; clear hf; intro a hf
      refine qY hf rfl rfl rfl (Y_add rfl rfl rfl) ?_; clear hf; intro a hf
      refine qY hf rfl rfl rfl (Y_assign rfl rfl) ?_; clear hf; intro a hf
      refine qNil ?_; clear hs; intro w hs
      refine wpL_region ?_
      refine sY hf hs rfl rfl rfl (Y_move rfl rfl) ?_; clear hf; intro a hf
      refine sY hf hs rfl rfl rfl (Y_move rfl rfl) ?_; clear hf; intro a hf
      refine sY hf hs rfl rfl rfl (Y_nilCheck rfl rfl) ?_; clear hf; intro a hf
      refine sY hf hs rfl rfl rfl (Y_fieldAddr rfl rfl fo119_1) ?_; clear hf; intro a hf
      refine sY hf hs rfl rfl rfl (Y_load_blk rfl rfl (i := 0) rfl rfl ag3) ?_; clear hf; intro a hf
      refine sY hf hs rfl rfl rfl (Y_add rfl rfl rfl) ?_; clear hf; intro a hf
      refine sY hf hs rfl rfl rfl (Y_nilCheck rfl rfl) ?_; clear hf; intro a hf
      refine sY hf hs rfl rfl rfl (Y_fieldAddr rfl rfl fo119_1) ?_; clear hf; intro a hf
      refine sStore (i := 0) (us := [.int .i64 (IntKind.i64.wrap (p0_d_i + 1))]) hf hs rfl rfl rfl rfl rfl rfl ti3 rfl rfl rfl (Nat.le_of_ble_eq_true rfl) rfl ?_; clear hs; intro w hs
      have hs : St (muL [.blk b_p0_d 119 [.slice A_p0_d_b p0_d_b.length c_p0_d_b, .int .i64 p0_d_i, .int .u64 p0_d_h]]) W w [.blk b_p0_d 119 [.slice A_p0_d_b p0_d_b.length c_p0_d_b, .int .i64 (IntKind.i64.wrap (p0_d_i + 1)), .int .u64 (IntKind.u64.wrap ((IntKind.u64.wrap (p0_d_h * 6364136223846793005)) + 1442695040888963407))]] := hs
      refine wpO_nil ?_
      refine wpL_nil (then_normal ?_)
      exact ⟨(IntKind.i64.wrap (p0_d_i + 1)), (IntKind.i64.wrap ((IntKind.i64.wrap (andI .u64 (shrI (IntKind.u64.wrap ((IntKind.u64.wrap (p0_d_h * 6364136223846793005)) + 1442695040888963407)) 33) 16777215)) + (IntKind.i64.wrap q9))), Option.some.inj hj7, (FrD.pick (FrD.pick hf.none hf rfl) hf rfl), hs⟩
    · have hj7 := bif_f hj7 hb8
      refine wpL_skip ?_
      refine wpL_nil (then_normal ?_)
      exact ⟨p0_d_i, (IntKind.i64.wrap (andI .u64 (shrI (IntKind.u64.wrap ((IntKind.u64.wrap (p0_d_h * 6364136223846793005)) + 1442695040888963407)) 33) 16777215)), Option.some.inj hj7, (FrD.pick (FrD.pick hf.none hf rfl) hf rfl), hs⟩
  · rintro a w ⟨x4, x5, hr_, hf, hs⟩
    subst hr_
    try dsimp only at hm
    refine wpL_seq ?_
    refine wpL_region ?_
    refine sY hf hs rfl rfl rfl (Y_move rfl rfl) ?_; clear hf; intro a hf
    refine sY hf hs rfl rfl rfl (Y_move rfl rfl) ?_; clear hf; intro a hf
    obtain ⟨_, hz11, hm⟩ := bind_some hm
    refine sY hf hs rfl rfl rfl (Y_rem rfl rfl rfl (nz_some hz11)) ?_; clear hf; intro a hf
    refine sY hf hs rfl rfl rfl (Y_assign rfl rfl) ?_; clear hf; intro a hf
    refine wpO_nil ?_
    obtain rfl := Option.some.inj hm
    refine wpL_ret (ret_tmp rfl hf rfl ?_)
    exact ⟨_, rfl, rfl, hs⟩

end Go.Proofs.Ytgkgimglgjfcjaa
