/- The functions do what their models say. -/
import Derived.Test.YtmijmamolmoheaaTightWindowsLifted1
import Derived.Test.YtmijmamolmoheaaRows
namespace Go.Proofs.Ytmijmamolmoheaa
open Go.RowKit

set_option maxRecDepth 100000 in
theorem spec_l23Solve_ok (F : Nat) (p0 : List GWindow) (A_p0_1 : Option Addr) (n_p0_1 c_p0_1 : Nat) (hn_p0_1 : n_p0_1 = p0.length) (p1 : List GBond) (A_p1_1 : Option Addr) (n_p1_1 c_p1_1 : Nat) (hn_p1_1 : n_p1_1 = p1.length) (p2 : Bool) (r : List Int) (W : World) (hm : spec_l23Solve F p0 p1 p2 = some r) (h_p0_1 : Rd W A_p0_1 ((recs GWindow.cells) p0)) (h_p1_1 : Rd W A_p1_1 ((recs GBond.cells) p1)) :
    Calls Try.prog 112 [.slice A_p0_1 n_p0_1 c_p0_1, .slice A_p1_1 n_p1_1 c_p1_1, .bool p2].toArray W fun e w' => ∃ v, e = .returned v ∧ ∃ A251, ∃ n252, ∃ c253, v = .slice A251 n252 c253 ∧ n252 = r.length ∧ St [] W w' [.row A251 n252 c253 2 1 (ints r)] := by
  subst hn_p0_1
  subst hn_p1_1
  unfold spec_l23Solve at hm
  refine Calls.enter (N := 83) Try.func112 rfl rfl rfl (fun a hf => ?_)
  have hs := St.start W
  obtain ⟨w, hw_⟩ : ∃ w, w = W := ⟨W, rfl⟩
  clear hw_ w
  refine wpL_seq ?_
  refine wpL_region ?_
  refine sY hf hs rfl rfl rfl (Y_assign rfl rfl) ?_; clear hf; intro a hf
  refine wpO_nil ?_
  refine wpL_seq ?_
  refine wpL_region ?_
  refine sY hf hs rfl rfl rfl (Y_move rfl rfl) ?_; clear hf; intro a hf
  refine sY hf hs rfl rfl rfl (Y_lenH rfl rfl el53 rfl) ?_; clear hf; intro a hf
  refine sY hf hs rfl rfl rfl (Y_move rfl rfl) ?_; clear hf; intro a hf
  obtain ⟨r1, hc2, hm⟩ := bind_some hm
  refine sCall hf rfl rfl rfl rfl (cap := []) rfl rfl en94 (spec_l23Matrix_ok F (p0.length : Int) p1 A_p1_1 p1.length c_p1_1 rfl _ _ hc2 (h_p1_1.at hs)) ?_; clear hf
  rintro _ w ⟨A3, n4, c5, vs7, rfl, hn6, hs1⟩ a hf
  have hs : St [] W w [.mat A3 n4 c5 36 2 vs7 r1] := hs.join hs1
  clear hs1
  obtain ⟨r8, hc9, hm⟩ := bind_some hm
  refine sCall hf rfl rfl rfl rfl (cap := []) rfl rfl en101 (spec_l03Star_ok F r1 A3 n4 c5 hn6 _ _ hc9 (hs.rdM (i := 0) rfl)) ?_; clear hf
  rintro _ w ⟨A10, n11, c12, vs14, rfl, hn13, hs1⟩ a hf
  have hs : St [] W w [.mat A3 n4 c5 36 2 vs7 r1, .mat A10 n11 c12 36 2 vs14 r8.1] := hs.join hs1
  clear hs1
  refine sY hf hs rfl rfl rfl (Y_move rfl rfl) ?_; clear hf; intro a hf
  refine sY hf hs rfl rfl rfl (Y_extract rfl rfl rfl) ?_; clear hf; intro a hf
  refine sY hf hs rfl rfl rfl (Y_extract rfl rfl rfl) ?_; clear hf; intro a hf
  refine sY hf hs rfl rfl rfl (Y_assign rfl rfl) ?_; clear hf; intro a hf
  refine sY hf hs rfl rfl rfl (Y_assign rfl rfl) ?_; clear hf; intro a hf
  refine wpO_nil ?_
  refine wpL_seq ?_
  refine wpL_seq ?_
  refine wpL_region ?_
  refine sY hf hs rfl rfl rfl (Y_move rfl rfl) ?_; clear hf; intro a hf
  refine sY hf hs rfl rfl rfl (Y_not rfl rfl) ?_; clear hf; intro a hf
  refine wpO_nil ?_
  refine wpL_cond hf rfl (fun hb15 => ?_) (fun hb15 => ?_)
  · have hm := bif_t hm hb15
    refine wpL_seq ?_
    refine wpL_region ?_
    refine sY hf hs rfl rfl rfl (Y_assign rfl rfl) ?_; clear hf; intro a hf
    refine wpO_nil ?_
    have hs : St [] W _ [.mat A3 n4 c5 36 2 vs7 r1, .mat A10 n11 c12 36 2 vs14 r8.1, .row none 0 0 2 1 (ints ([] : List Int))] := hs.addNil 2 1
    obtain rfl := Option.some.inj hm
    refine wpL_ret (ret_tmp rfl hf rfl ?_)
    exact ⟨_, rfl, none, 0, 0, rfl, rfl, hs.sel [2] (by decide)⟩
  · have hm := bif_f hm hb15
    refine wpL_skip ?_
    refine wpL_seq ?_
    refine wpL_region ?_
    refine sEmpty hf hs rfl rfl rfl rfl el36 ti2 ?_; clear hf hs; intro a w A17 hs hf
    have hs : St [] W w [.mat A3 n4 c5 36 2 vs7 r1, .mat A10 n11 c12 36 2 vs14 r8.1, .row A17 0 0 2 1 (ints ([] : List Int))] := hs
    refine sEmpty hf hs rfl rfl rfl rfl el36 ti2 ?_; clear hf hs; intro a w A19 hs hf
    have hs : St [] W w [.mat A3 n4 c5 36 2 vs7 r1, .mat A10 n11 c12 36 2 vs14 r8.1, .row A17 0 0 2 1 (ints ([] : List Int)), .row A19 0 0 2 1 (ints ([] : List Int))] := hs
    refine sY hf hs rfl rfl rfl (Y_assign rfl rfl) ?_; clear hf; intro a hf
    refine sY hf hs rfl rfl rfl (Y_assign rfl rfl) ?_; clear hf; intro a hf
    refine wpO_nil ?_
    refine wpL_seq ?_
    refine wpL_seq ?_
    refine wpL_region ?_
    refine sY hf hs rfl rfl rfl (Y_assign rfl rfl) ?_; clear hf; intro a hf
    refine wpO_nil ?_
    obtain ⟨r104, hl105, hm⟩ := bind_some hm
    refine wpL_block (fun a w => ∃ xs94 : List Int, ∃ xs99 : List Int, ∃ A95, ∃ n96, ∃ c97, ∃ A100, ∃ n101, ∃ c102, (xs94, xs99) = r104 ∧ n96 = xs94.length ∧ n101 = xs99.length ∧ Fr a 83 [(2, .bool p2), (7, .slice A10 n11 c12), (9, .slice A95 n96 c97), (10, .slice A100 n101 c102)] ∧ St [] W w [.mat A10 n11 c12 36 2 vs14 r8.1, .row A95 n96 c97 2 1 (ints xs94), .row A100 n101 c102 2 1 (ints xs99)]) ?_ ?_
    · refine wpL_loop (fun n a w => ∃ xs66 : List Int, ∃ xs71 : List Int, ∃ x76 : Int, ∃ A67, ∃ n68, ∃ c69, ∃ A72, ∃ n73, ∃ c74, spec_l23Solve_L1 F p0 n xs66 xs71 x76 = some r104 ∧ n68 = xs66.length ∧ n73 = xs71.length ∧ Fr a 83 [(0, .slice A_p0_1 p0.length c_p0_1), (2, .bool p2), (7, .slice A10 n11 c12), (9, .slice A67 n68 c69), (10, .slice A72 n73 c74), (11, .int .i64 x76)] ∧ St [] W w [.mat A10 n11 c12 36 2 vs14 r8.1, .row A67 n68 c69 2 1 (ints xs66), .row A72 n73 c74 2 1 (ints xs71)]) F ?_ ?_ ?_
      · exact ⟨([] : List Int), ([] : List Int), 0, A17, 0, 0, A19, 0, 0, hl105, rfl, rfl, (Fr.pick (Fr.pick (Fr.pick (Fr.pick (Fr.pick (Fr.pick hf.none hf rfl) hf rfl) hf rfl) hf rfl) hf rfl) hf rfl), hs.sel [1, 2, 3] (by decide)⟩
      · rintro a w ⟨xs66, xs71, x76, A67, n68, c69, A72, n73, c74, h0_, -, -, -, -⟩; simp [spec_l23Solve_L1] at h0_
      · rintro n107 a w ⟨xs66, xs71, x76, A67, n68, c69, A72, n73, c74, hm106, hn70, hn75, hf, hs⟩
        rw [spec_l23Solve_L1] at hm106
        refine wpL_seq ?_
        refine wpL_seq ?_
        refine wpL_region ?_
        refine sY hf hs rfl rfl rfl (Y_move rfl rfl) ?_; clear hf; intro a hf
        refine sY hf hs rfl rfl rfl (Y_move rfl rfl) ?_; clear hf; intro a hf
        refine sY hf hs rfl rfl rfl (Y_lenH rfl rfl el53 rfl) ?_; clear hf; intro a hf
        refine sY hf hs rfl rfl rfl (Y_lss rfl rfl rfl) ?_; clear hf; intro a hf
        refine wpO_nil ?_
        refine wpL_cond hf rfl (fun hb108 => ?_) (fun hb108 => ?_)
        · have hm106 := bif_t hm106 hb108
          refine wpL_skip ?_
          refine wpL_seq ?_
          refine wpL_block0 ?_
          refine wpL_seq ?_
          refine wpL_region ?_
          refine sY hf hs rfl rfl rfl (Y_move rfl rfl) ?_; clear hf; intro a hf
          refine sY hf hs rfl rfl rfl (Y_move rfl rfl) ?_; clear hf; intro a hf
          refine sY hf hs rfl rfl rfl (Y_move rfl rfl) ?_; clear hf; intro a hf
          obtain ⟨q109, hi110, hm106⟩ := bind_some hm106
          obtain ⟨hi110a, hi110b, hi110q⟩ := idx_some hi110
          refine sY hf hs rfl rfl rfl (Y_index rfl rfl rfl el53 ti103 (Rd.isAt (h_p0_1.at hs) (recs_at (s := 2) GWindow.len hi110q (j := 0) rfl)) hi110a hi110b) ?_; clear hf; intro a hf
          refine sY hf hs rfl rfl rfl (Y_fieldAddrE rfl rfl fo103_0) ?_; clear hf; intro a hf
          refine sY hf hs rfl rfl rfl (Y_load_rd rfl rfl (fun w hs => h_p0_1.at hs) (recs_at (s := 2) GWindow.len hi110q (j := 0) rfl) ag2) ?_; clear hf; intro a hf
          refine sBuildSlice (parts := [(0, .tmp 37)]) (vs := [.int .i64 q109.Low]) (cells := [.int .i64 q109.Low]) hf hs rfl rfl rfl rfl rfl el36 ti2 rfl rfl rfl rfl ?_; clear hf hs; intro a w A111 hs hA112 hf
          have hs : St [] W w [.mat A10 n11 c12 36 2 vs14 r8.1, .row A67 n68 c69 2 1 (ints xs66), .row A72 n73 c74 2 1 (ints xs71), .row A111 1 1 2 1 (ints ([q109.Low]))] := hs
          obtain ⟨xs115, ha116, hm106⟩ := bind_some hm106
          refine sAppendL (i := 1) (xs := xs66) (ys := [q109.Low]) (enc := ints) hf hs rfl rfl rfl rfl rfl rfl hn70 rfl rfl ha116 el36 ti2 rfl rfl rfl (hs.rd (i := 3) rfl) (Nat.succ_pos _) ints_len1 ints_append ints_one ?_; clear hf hs; intro a w A113 c114 hs hf
          have hs : St [] W w [.mat A10 n11 c12 36 2 vs14 r8.1, .row A113 xs115.length c114 2 1 (ints xs115), .row A72 n73 c74 2 1 (ints xs71), .row A111 1 1 2 1 (ints ([q109.Low]))] := hs
          refine sY hf hs rfl rfl rfl (Y_assign rfl rfl) ?_; clear hf; intro a hf
          refine wpO_nil ?_
          refine wpL_region ?_
          refine sY hf hs rfl rfl rfl (Y_move rfl rfl) ?_; clear hf; intro a hf
          refine sY hf hs rfl rfl rfl (Y_move rfl rfl) ?_; clear hf; intro a hf
          refine sY hf hs rfl rfl rfl (Y_move rfl rfl) ?_; clear hf; intro a hf
          obtain ⟨q117, hi118, hm106⟩ := bind_some hm106
          obtain ⟨hi118a, hi118b, hi118q⟩ := idx_some hi118
          refine sY hf hs rfl rfl rfl (Y_index rfl rfl rfl el53 ti103 (Rd.isAt (h_p0_1.at hs) (recs_at (s := 2) GWindow.len hi118q (j := 0) rfl)) hi118a hi118b) ?_; clear hf; intro a hf
          refine sY hf hs rfl rfl rfl (Y_fieldAddrE rfl rfl fo103_1) ?_; clear hf; intro a hf
          refine sY hf hs rfl rfl rfl (Y_load_rd rfl rfl (fun w hs => h_p0_1.at hs) (recs_at (s := 2) GWindow.len hi118q (j := 1) rfl) ag2) ?_; clear hf; intro a hf
          refine sBuildSlice (parts := [(0, .tmp 45)]) (vs := [.int .i64 q117.High]) (cells := [.int .i64 q117.High]) hf hs rfl rfl rfl rfl rfl el36 ti2 rfl rfl rfl rfl ?_; clear hf hs; intro a w A119 hs hA120 hf
          have hs : St [] W w [.mat A10 n11 c12 36 2 vs14 r8.1, .row A113 xs115.length c114 2 1 (ints xs115), .row A72 n73 c74 2 1 (ints xs71), .row A111 1 1 2 1 (ints ([q109.Low])), .row A119 1 1 2 1 (ints ([q117.High]))] := hs
          obtain ⟨xs123, ha124, hm106⟩ := bind_some hm106
          refine sAppendL (i := 2) (xs := xs71) (ys := [q117.High]) (enc := ints) hf hs rfl rfl rfl rfl rfl rfl hn75 rfl rfl ha124 el36 ti2 rfl rfl rfl (hs.rd (i := 4) rfl) (Nat.succ_pos _) ints_len1 ints_append ints_one ?_; clear hf hs; intro a w A121 c122 hs hf
          have hs : St [] W w [.mat A10 n11 c12 36 2 vs14 r8.1, .row A113 xs115.length c114 2 1 (ints xs115), .row A121 xs123.length c122 2 1 (ints xs123), .row A111 1 1 2 1 (ints ([q109.Low])), .row A119 1 1 2 1 (ints ([q117.High]))] := hs
          refine sY hf hs rfl rfl rfl (Y_assign rfl rfl) ?_; clear hf; intro a hf
          refine wpO_nil ?_
          refine wpL_nil (Qb_normal ?_)
          refine wpL_region ?_
          refine sY hf hs rfl rfl rfl (Y_move rfl rfl) ?_; clear hf; intro a hf
          refine sY hf hs rfl rfl rfl (Y_add rfl rfl rfl) ?_; clear hf; intro a hf
          refine sY hf hs rfl rfl rfl (Y_assign rfl rfl) ?_; clear hf; intro a hf
          refine wpO_nil ?_
          refine wpL_nil (Ql_normal ?_)
          exact ⟨xs115, xs123, (IntKind.i64.wrap (x76 + 1)), A113, xs115.length, c114, A121, xs123.length, c122, hm106, rfl, rfl, (Fr.pick (Fr.pick (Fr.pick (Fr.pick (Fr.pick (Fr.pick hf.none hf rfl) hf rfl) hf rfl) hf rfl) hf rfl) hf rfl), hs.sel [0, 1, 2] (by decide)⟩
        · have hm106 := bif_f hm106 hb108
          refine wpL_exit (Ql_exit (Qb_exit ?_))
          exact ⟨xs66, xs71, A67, n68, c69, A72, n73, c74, Option.some.inj hm106, hn70, hn75, (Fr.pick (Fr.pick (Fr.pick (Fr.pick hf.none hf rfl) hf rfl) hf rfl) hf rfl), hs⟩
    · rintro a w ⟨xs94, xs99, A95, n96, c97, A100, n101, c102, hr_, hn98, hn103, hf, hs⟩
      subst hr_
      try dsimp only at hm
      refine wpL_seq ?_
      refine wpL_region ?_
      refine sY hf hs rfl rfl rfl (Y_move rfl rfl) ?_; clear hf; intro a hf
      refine sY hf hs rfl rfl rfl (Y_move rfl rfl) ?_; clear hf; intro a hf
      obtain ⟨r125, hc126, hm⟩ := bind_some hm
      refine sCall hf rfl rfl rfl rfl (cap := []) rfl rfl en103 (spec_l02Apply_ok F r8.1 A10 n11 c12 hn13 xs94 A95 n96 c97 hn98 _ _ hc126 (hs.rdM (i := 0) rfl) (hs.rd (i := 1) rfl)) ?_; clear hf
      rintro _ w ⟨A127, n128, c129, rfl, hn130, hs1⟩ a hf
      have hs : St [] W w [.mat A10 n11 c12 36 2 vs14 r8.1, .row A95 n96 c97 2 1 (ints xs94), .row A100 n101 c102 2 1 (ints xs99), .row A127 n128 c129 2 1 (ints r125)] := hs.join hs1
      clear hs1
      refine sY hf hs rfl rfl rfl (Y_assign rfl rfl) ?_; clear hf; intro a hf
      refine wpO_nil ?_
      refine wpL_seq ?_
      refine wpL_seq ?_
      refine wpL_region ?_
      refine sY hf hs rfl rfl rfl (Y_move rfl rfl) ?_; clear hf; intro a hf
      refine sY hf hs rfl rfl rfl (Y_not rfl rfl) ?_; clear hf; intro a hf
      refine wpO_nil ?_
      obtain ⟨r143, hj144, hm⟩ := bind_some hm
      refine wpL_cut (fun a w => ∃ xs138 : List Int, ∃ A139, ∃ n140, ∃ c141, xs138 = r143 ∧ n140 = xs138.length ∧ Fr a 83 [(9, .slice A95 n96 c97), (10, .slice A100 n101 c102), (12, .slice A139 n140 c141)] ∧ St [] W w [.row A95 n96 c97 2 1 (ints xs94), .row A100 n101 c102 2 1 (ints xs99), .row A139 n140 c141 2 1 (ints xs138)]) ?_ ?_
      · refine wpL_cond hf rfl (fun hb145 => ?_) (fun hb145 => ?_)
        · have hj144 := bif_t hj144 hb145
          refine wpL_region ?_
          refine sY hf hs rfl rfl rfl (Y_move rfl rfl) ?_; clear hf; intro a hf
          refine sY hf hs rfl rfl rfl (Y_move rfl rfl) ?_; clear hf; intro a hf
          obtain ⟨r146, hc147, hj144⟩ := bind_some hj144
          refine sCall hf rfl rfl rfl rfl (cap := []) rfl rfl en106 (spec_l08Sub_ok F r8.1 A10 n11 c12 hn13 xs99 A100 n101 c102 hn103 _ _ hc147 (hs.rdM (i := 0) rfl) (hs.rd (i := 2) rfl)) ?_; clear hf
          rintro _ w ⟨A148, n149, c150, rfl, hn151, hs1⟩ a hf
          have hs : St [] W w [.mat A10 n11 c12 36 2 vs14 r8.1, .row A95 n96 c97 2 1 (ints xs94), .row A100 n101 c102 2 1 (ints xs99), .row A127 n128 c129 2 1 (ints r125), .row A148 n149 c150 2 1 (ints r146)] := hs.join hs1
          clear hs1
          refine sY hf hs rfl rfl rfl (Y_assign rfl rfl) ?_; clear hf; intro a hf
          refine wpO_nil ?_
          refine wpL_nil (then_normal ?_)
          exact ⟨r146, A148, n149, c150, Option.some.inj hj144, hn151, (Fr.pick (Fr.pick (Fr.pick hf.none hf rfl) hf rfl) hf rfl), hs.sel [1, 2, 4] (by decide)⟩
        · have hj144 := bif_f hj144 hb145
          refine wpL_skip ?_
          refine wpL_nil (then_normal ?_)
          exact ⟨r125, A127, n128, c129, Option.some.inj hj144, hn130, (Fr.pick (Fr.pick (Fr.pick hf.none hf rfl) hf rfl) hf rfl), hs.sel [1, 2, 3] (by decide)⟩
      · rintro a w ⟨xs138, A139, n140, c141, hr_, hn142, hf, hs⟩
        subst hr_
        try dsimp only at hm
        refine wpL_seq ?_
        refine wpL_seq ?_
        refine wpL_region ?_
        refine sY hf hs rfl rfl rfl (Y_assign rfl rfl) ?_; clear hf; intro a hf
        refine wpO_nil ?_
        obtain ⟨r223, hl224, hm⟩ := bind_some hm
        refine wpL_block (fun a w => Sum.inr () = r223 ∧ Fr a 83 [(12, .slice A139 n140 c141)] ∧ St [] W w [.row A139 n140 c141 2 1 (ints xs138)]) ?_ ?_
        · refine wpL_loop (fun n a w => ∃ x199 : Int, spec_l23Solve_L2 F xs94 xs99 xs138 n x199 = some r223 ∧ Fr a 83 [(9, .slice A95 n96 c97), (10, .slice A100 n101 c102), (12, .slice A139 n140 c141), (13, .int .i64 x199)] ∧ St [] W w [.row A95 n96 c97 2 1 (ints xs94), .row A100 n101 c102 2 1 (ints xs99), .row A139 n140 c141 2 1 (ints xs138)]) F ?_ ?_ ?_
          · exact ⟨0, hl224, (Fr.pick (Fr.pick (Fr.pick (Fr.pick hf.none hf rfl) hf rfl) hf rfl) hf rfl), hs⟩
          · rintro a w ⟨x199, h0_, -, -⟩; simp [spec_l23Solve_L2] at h0_
          · rintro n226 a w ⟨x199, hm225, hf, hs⟩
            rw [spec_l23Solve_L2] at hm225
            refine wpL_seq ?_
            refine wpL_seq ?_
            refine wpL_region ?_
            refine sY hf hs rfl rfl rfl (Y_move rfl rfl) ?_; clear hf; intro a hf
            refine sY hf hs rfl rfl rfl (Y_move rfl rfl) ?_; clear hf; intro a hf
            refine sY hf hs rfl rfl rfl (Y_lenH rfl rfl el36 hn142) ?_; clear hf; intro a hf
            refine sY hf hs rfl rfl rfl (Y_lss rfl rfl rfl) ?_; clear hf; intro a hf
            refine wpO_nil ?_
            refine wpL_cond hf rfl (fun hb227 => ?_) (fun hb227 => ?_)
            · have hm225 := bif_t hm225 hb227
              refine wpL_skip ?_
              refine wpL_seq ?_
              refine wpL_block0 ?_
              refine wpL_seq ?_
              obtain ⟨r238, hj239, hm225⟩ := bind_some hm225
              refine wpL_cut (fun a w => ∃ b237 : Bool, b237 = r238 ∧ Fr a 83 [(9, .slice A95 n96 c97), (10, .slice A100 n101 c102), (12, .slice A139 n140 c141), (13, .int .i64 x199), (81, .bool b237)] ∧ St [] W w [.row A95 n96 c97 2 1 (ints xs94), .row A100 n101 c102 2 1 (ints xs99), .row A139 n140 c141 2 1 (ints xs138)]) ?_ ?_
              · refine wpL_draw (by kernel_rfl) (by kernel_rfl) hs ?_
                refine qY hf rfl rfl rfl (Y_move rfl rfl) ?_; clear hf; intro a hf
                refine qY hf rfl rfl rfl (Y_move rfl rfl) ?_; clear hf; intro a hf
                obtain ⟨q240, hi241, hj239⟩ := bind_some hj239
                obtain ⟨hi241a, hi241b, hi241q⟩ := idx_some hi241
                refine qY hf rfl rfl rfl (Y_index rfl rfl rfl el36 ti2 (Rd.isAt (hs.rd (i := 2) rfl) (at1 (ints_at hi241q))) hi241a (ltn hn142 hi241b)) ?_; clear hf; intro a hf
                refine qY hf rfl rfl rfl (Y_load_rd rfl rfl (fun w hs => hs.rd (i := 2) rfl) (at1 (ints_at hi241q)) ag2) ?_; clear hf; intro a hf
                refine qY hf rfl rfl rfl (Y_move rfl rfl) ?_; clear hf; intro a hf
                refine qY hf rfl rfl rfl (Y_move rfl rfl) ?_; clear hf; intro a hf
                obtain ⟨q242, hi243, hj239⟩ := bind_some hj239
                obtain ⟨hi243a, hi243b, hi243q⟩ := idx_some hi243
                refine qY hf rfl rfl rfl (Y_index rfl rfl rfl el36 ti2 (Rd.isAt (hs.rd (i := 0) rfl) (at1 (ints_at hi243q))) hi243a (ltn hn98 hi243b)) ?_; clear hf; intro a hf
                refine qY hf rfl rfl rfl (Y_load_rd rfl rfl (fun w hs => hs.rd (i := 0) rfl) (at1 (ints_at hi243q)) ag2) ?_; clear hf; intro a hf
                refine qY hf rfl rfl rfl (Y_lss rfl rfl rfl) ?_; clear hf; intro a hf
                refine qY hf rfl rfl rfl (Y_move rfl rfl) ?_; clear hf; intro a hf
                refine bsplit (decide (q240 < q242)) (fun hb244 => ?_) (fun hb244 => ?_)
                · have hj239 := bif_t hj239 hb244
                  refine qNo hf rfl rfl rfl (congrArg (fun b => some (Value.bool b)) hb244) rfl rfl rfl ?_; clear hf; intro a hf
                  refine qNo hf rfl rfl rfl (congrArg (fun b => some (Value.bool b)) hb244) rfl rfl rfl ?_; clear hf; intro a hf
                  refine qNo hf rfl rfl rfl (congrArg (fun b => some (Value.bool b)) hb244) rfl rfl rfl ?_; clear hf; intro a hf
                  refine qNo hf rfl rfl rfl (congrArg (fun b => some (Value.bool b)) hb244) rfl rfl rfl ?_; clear hf; intro a hf
                  refine qNo hf rfl rfl rfl (congrArg (fun b => some (Value.bool b)) hb244) rfl rfl rfl ?_; clear hf; intro a hf
                  refine qNo hf rfl rfl rfl (congrArg (fun b => some (Value.bool b)) hb244) rfl rfl rfl ?_; clear hf; intro a hf
                  refine qNo hf rfl rfl rfl (congrArg (fun b => some (Value.bool b)) hb244) rfl rfl rfl ?_; clear hf; intro a hf
                  refine qNo hf rfl rfl rfl (congrArg (fun b => some (Value.bool b)) hb244) rfl rfl rfl ?_; clear hf; intro a hf
                  refine qNo hf rfl rfl rfl (congrArg (fun b => some (Value.bool b)) hb244) rfl rfl rfl ?_; clear hf; intro a hf
                  refine qY hf rfl rfl rfl (Y_pickT rfl (congrArg (fun b => some (Value.bool b)) hb244) rfl) ?_; clear hf; intro a hf
                  refine qNil ?_; clear hs; intro w hs
                  refine wpL_nil (then_normal ?_)
                  exact ⟨true, Option.some.inj hj239, (Fr.pick (Fr.pick (Fr.pick (Fr.pick (Fr.pick hf.none hf rfl) hf rfl) hf rfl) hf rfl) hf rfl), hs⟩
                · have hj239 := bif_f hj239 hb244
                  refine qYg hf rfl rfl rfl (congrArg (fun b => some (Value.bool b)) hb244) rfl rfl rfl (Y_move rfl rfl) ?_; clear hf; intro a hf
                  refine qYg hf rfl rfl rfl (congrArg (fun b => some (Value.bool b)) hb244) rfl rfl rfl (Y_move rfl rfl) ?_; clear hf; intro a hf
                  obtain ⟨q245, hi246, hj239⟩ := bind_some hj239
                  obtain ⟨hi246a, hi246b, hi246q⟩ := idx_some hi246
                  refine qYg hf rfl rfl rfl (congrArg (fun b => some (Value.bool b)) hb244) rfl rfl rfl (Y_index rfl rfl rfl el36 ti2 (Rd.isAt (hs.rd (i := 2) rfl) (at1 (ints_at hi246q))) hi246a (ltn hn142 hi246b)) ?_; clear hf; intro a hf
                  refine qYg hf rfl rfl rfl (congrArg (fun b => some (Value.bool b)) hb244) rfl rfl rfl (Y_load_rd rfl rfl (fun w hs => hs.rd (i := 2) rfl) (at1 (ints_at hi246q)) ag2) ?_; clear hf; intro a hf
                  refine qYg hf rfl rfl rfl (congrArg (fun b => some (Value.bool b)) hb244) rfl rfl rfl (Y_move rfl rfl) ?_; clear hf; intro a hf
                  refine qYg hf rfl rfl rfl (congrArg (fun b => some (Value.bool b)) hb244) rfl rfl rfl (Y_move rfl rfl) ?_; clear hf; intro a hf
                  obtain ⟨q247, hi248, hj239⟩ := bind_some hj239
                  obtain ⟨hi248a, hi248b, hi248q⟩ := idx_some hi248
                  refine qYg hf rfl rfl rfl (congrArg (fun b => some (Value.bool b)) hb244) rfl rfl rfl (Y_index rfl rfl rfl el36 ti2 (Rd.isAt (hs.rd (i := 1) rfl) (at1 (ints_at hi248q))) hi248a (ltn hn103 hi248b)) ?_; clear hf; intro a hf
                  refine qYg hf rfl rfl rfl (congrArg (fun b => some (Value.bool b)) hb244) rfl rfl rfl (Y_load_rd rfl rfl (fun w hs => hs.rd (i := 1) rfl) (at1 (ints_at hi248q)) ag2) ?_; clear hf; intro a hf
                  refine qYg hf rfl rfl rfl (congrArg (fun b => some (Value.bool b)) hb244) rfl rfl rfl (Y_gtr rfl rfl rfl) ?_; clear hf; intro a hf
                  refine qY hf rfl rfl rfl (Y_pickF rfl (congrArg (fun b => some (Value.bool b)) hb244) rfl) ?_; clear hf; intro a hf
                  refine qNil ?_; clear hs; intro w hs
                  refine wpL_nil (then_normal ?_)
                  exact ⟨(decide (q247 < q245)), Option.some.inj hj239, (Fr.pick (Fr.pick (Fr.pick (Fr.pick (Fr.pick hf.none hf rfl) hf rfl) hf rfl) hf rfl) hf rfl), hs⟩
              · rintro a w ⟨b237, hr_, hf, hs⟩
                subst hr_
                try dsimp only at hm225
                refine wpL_cond hf rfl (fun hb249 => ?_) (fun hb249 => ?_)
                · have hm225 := bif_t hm225 hb249
                  refine wpL_seq ?_
                  refine wpL_region ?_
                  refine sY hf hs rfl rfl rfl (Y_assign rfl rfl) ?_; clear hf; intro a hf
                  refine wpO_nil ?_
                  have hs : St [] W _ [.row A95 n96 c97 2 1 (ints xs94), .row A100 n101 c102 2 1 (ints xs99), .row A139 n140 c141 2 1 (ints xs138), .row none 0 0 2 1 (ints ([] : List Int))] := hs.addNil 2 1
                  obtain rfl := Option.some.inj hm225
                  try dsimp only at hm
                  obtain rfl := Option.some.inj hm
                  refine wpL_ret (Qb_ret (Ql_ret (Qb_ret (ret_tmp rfl hf rfl ?_))))
                  exact ⟨_, rfl, none, 0, 0, rfl, rfl, hs.sel [3] (by decide)⟩
                · have hm225 := bif_f hm225 hb249
                  refine wpL_skip ?_
                  refine wpL_nil (Qb_normal ?_)
                  refine wpL_region ?_
                  refine sY hf hs rfl rfl rfl (Y_move rfl rfl) ?_; clear hf; intro a hf
                  refine sY hf hs rfl rfl rfl (Y_add rfl rfl rfl) ?_; clear hf; intro a hf
                  refine sY hf hs rfl rfl rfl (Y_assign rfl rfl) ?_; clear hf; intro a hf
                  refine wpO_nil ?_
                  refine wpL_nil (Ql_normal ?_)
                  exact ⟨(IntKind.i64.wrap (x199 + 1)), hm225, (Fr.pick (Fr.pick (Fr.pick (Fr.pick hf.none hf rfl) hf rfl) hf rfl) hf rfl), hs⟩
            · have hm225 := bif_f hm225 hb227
              refine wpL_exit (Ql_exit (Qb_exit ?_))
              exact ⟨Option.some.inj hm225, (Fr.pick hf.none hf rfl), hs.sel [2] (by decide)⟩
        · rintro a w ⟨hr_, hf, hs⟩
          subst hr_
          try dsimp only at hm
          refine wpL_seq ?_
          refine wpL_region ?_
          refine sY hf hs rfl rfl rfl (Y_move rfl rfl) ?_; clear hf; intro a hf
          refine sY hf hs rfl rfl rfl (Y_assign rfl rfl) ?_; clear hf; intro a hf
          refine wpO_nil ?_
          obtain rfl := Option.some.inj hm
          refine wpL_ret (ret_tmp rfl hf rfl ?_)
          exact ⟨_, rfl, A139, n140, c141, rfl, hn142, hs⟩

set_option maxRecDepth 100000 in
theorem spec_l23Code_ok (F : Nat) (p0_windows : List GWindow) (A_p0_windows_1 : Option Addr) (n_p0_windows_1 c_p0_windows_1 : Nat) (hn_p0_windows_1 : n_p0_windows_1 = p0_windows.length) (p1_bonds : List GBond) (A_p1_bonds_1 : Option Addr) (n_p1_bonds_1 c_p1_bonds_1 : Nat) (hn_p1_bonds_1 : n_p1_bonds_1 = p1_bonds.length) (p2_least : Bool) (r : List Int × Int) (W : World) (hm : spec_l23Code F p0_windows p1_bonds p2_least = some r) (h_p0_windows_1 : Rd W A_p0_windows_1 ((recs GWindow.cells) p0_windows)) (h_p1_bonds_1 : Rd W A_p1_bonds_1 ((recs GBond.cells) p1_bonds)) :
    Calls Try.prog 110 [.slice A_p0_windows_1 n_p0_windows_1 c_p0_windows_1, .slice A_p1_bonds_1 n_p1_bonds_1 c_p1_bonds_1, .bool p2_least].toArray W fun e w' => ∃ v, e = .returned v ∧ ∃ A13, ∃ n14, ∃ c15, v = .tuple #[.slice A13 n14 c15, .int .i64 r.2] ∧ n14 = r.1.length ∧ St [] W w' [.row A13 n14 c15 2 1 (ints r.1)] := by
  subst hn_p0_windows_1
  subst hn_p1_bonds_1
  unfold spec_l23Code at hm
  refine Calls.enter (N := 21) Try.func110 rfl rfl rfl (fun a hf => ?_)
  have hs := St.start W
  obtain ⟨w, hw_⟩ : ∃ w, w = W := ⟨W, rfl⟩
  clear hw_ w
  refine wpL_seq ?_
  refine wpL_region ?_
  refine sY hf hs rfl rfl rfl (Y_assign rfl rfl) ?_; clear hf; intro a hf
  refine sY hf hs rfl rfl rfl (Y_assign rfl rfl) ?_; clear hf; intro a hf
  refine wpO_nil ?_
  refine wpL_seq ?_
  refine wpL_seq ?_
  refine wpL_region ?_
  refine sY hf hs rfl rfl rfl (Y_move rfl rfl) ?_; clear hf; intro a hf
  refine sY hf hs rfl rfl rfl (Y_move rfl rfl) ?_; clear hf; intro a hf
  obtain ⟨r1, hc2, hm⟩ := bind_some hm
  refine sCall hf rfl rfl rfl rfl (cap := []) rfl rfl en93 (spec_IsTask_ok F p0_windows A_p0_windows_1 p0_windows.length c_p0_windows_1 rfl p1_bonds A_p1_bonds_1 p1_bonds.length c_p1_bonds_1 rfl _ _ hc2 (h_p0_windows_1.at hs) (h_p1_bonds_1.at hs)) ?_; clear hf
  rintro _ w ⟨rfl, hs1⟩ a hf
  have hs : St [] W w [] := hs.ext hs1.below
  clear hs1
  refine sY hf hs rfl rfl rfl (Y_not rfl rfl) ?_; clear hf; intro a hf
  refine wpO_nil ?_
  refine wpL_cond hf rfl (fun hb3 => ?_) (fun hb3 => ?_)
  · have hm := bif_t hm hb3
    refine wpL_seq ?_
    refine wpL_region ?_
    refine sY hf hs rfl rfl rfl (Y_assign rfl rfl) ?_; clear hf; intro a hf
    refine sY hf hs rfl rfl rfl (Y_assign rfl rfl) ?_; clear hf; intro a hf
    refine wpO_nil ?_
    have hs : St [] W _ [.row none 0 0 2 1 (ints ([] : List Int))] := hs.addNil 2 1
    obtain rfl := Option.some.inj hm
    refine wpL_ret (ret_tmp2 rfl hf rfl rfl ?_)
    exact ⟨_, rfl, none, 0, 0, rfl, rfl, hs⟩
  · have hm := bif_f hm hb3
    refine wpL_skip ?_
    refine wpL_seq ?_
    refine wpL_region ?_
    refine sY hf hs rfl rfl rfl (Y_move rfl rfl) ?_; clear hf; intro a hf
    refine sY hf hs rfl rfl rfl (Y_move rfl rfl) ?_; clear hf; intro a hf
    refine sY hf hs rfl rfl rfl (Y_move rfl rfl) ?_; clear hf; intro a hf
    obtain ⟨r5, hc6, hm⟩ := bind_some hm
    refine sCall hf rfl rfl rfl rfl (cap := []) rfl rfl en112 (spec_l23Solve_ok F p0_windows A_p0_windows_1 p0_windows.length c_p0_windows_1 rfl p1_bonds A_p1_bonds_1 p1_bonds.length c_p1_bonds_1 rfl p2_least _ _ hc6 (h_p0_windows_1.at hs) (h_p1_bonds_1.at hs)) ?_; clear hf
    rintro _ w ⟨A7, n8, c9, rfl, hn10, hs1⟩ a hf
    have hs : St [] W w [.row A7 n8 c9 2 1 (ints r5)] := hs.join hs1
    clear hs1
    refine sY hf hs rfl rfl rfl (Y_assign rfl rfl) ?_; clear hf; intro a hf
    refine wpO_nil ?_
    refine wpL_seq ?_
    refine wpL_seq ?_
    refine wpL_region ?_
    refine sY hf hs rfl rfl rfl (Y_move rfl rfl) ?_; clear hf; intro a hf
    refine sY hf hs rfl rfl rfl (Y_lenH rfl rfl el36 hn10) ?_; clear hf; intro a hf
    refine sY hf hs rfl rfl rfl (Y_eql rfl rfl rfl) ?_; clear hf; intro a hf
    refine wpO_nil ?_
    refine wpL_cond hf rfl (fun hb11 => ?_) (fun hb11 => ?_)
    · have hm := bif_t hm hb11
      refine wpL_seq ?_
      refine wpL_region ?_
      refine sY hf hs rfl rfl rfl (Y_assign rfl rfl) ?_; clear hf; intro a hf
      refine sY hf hs rfl rfl rfl (Y_assign rfl rfl) ?_; clear hf; intro a hf
      refine wpO_nil ?_
      have hs : St [] W _ [.row A7 n8 c9 2 1 (ints r5), .row none 0 0 2 1 (ints ([] : List Int))] := hs.addNil 2 1
      obtain rfl := Option.some.inj hm
      refine wpL_ret (ret_tmp2 rfl hf rfl rfl ?_)
      exact ⟨_, rfl, none, 0, 0, rfl, rfl, hs.sel [1] (by decide)⟩
    · have hm := bif_f hm hb11
      refine wpL_skip ?_
      refine wpL_seq ?_
      refine wpL_region ?_
      refine sY hf hs rfl rfl rfl (Y_move rfl rfl) ?_; clear hf; intro a hf
      refine sY hf hs rfl rfl rfl (Y_assign rfl rfl) ?_; clear hf; intro a hf
      refine sY hf hs rfl rfl rfl (Y_assign rfl rfl) ?_; clear hf; intro a hf
      refine wpO_nil ?_
      obtain rfl := Option.some.inj hm
      refine wpL_ret (ret_tmp2 rfl hf rfl rfl ?_)
      exact ⟨_, rfl, A7, n8, c9, rfl, hn10, hs⟩

set_option maxRecDepth 100000 in
theorem spec_TightWindows_ok (F : Nat) (p0_windows : List GWindow) (A_p0_windows_1 : Option Addr) (n_p0_windows_1 c_p0_windows_1 : Nat) (hn_p0_windows_1 : n_p0_windows_1 = p0_windows.length) (p1_bonds : List GBond) (A_p1_bonds_1 : Option Addr) (n_p1_bonds_1 c_p1_bonds_1 : Nat) (hn_p1_bonds_1 : n_p1_bonds_1 = p1_bonds.length) (r : List GWindow × Int) (W : World) (hm : spec_TightWindows F p0_windows p1_bonds = some r) (h_p0_windows_1 : Rd W A_p0_windows_1 ((recs GWindow.cells) p0_windows)) (h_p1_bonds_1 : Rd W A_p1_bonds_1 ((recs GBond.cells) p1_bonds)) :
    Calls Try.prog 57 [.slice A_p0_windows_1 n_p0_windows_1 c_p0_windows_1, .slice A_p1_bonds_1 n_p1_bonds_1 c_p1_bonds_1].toArray W fun e w' => ∃ v, e = .returned v ∧ ∃ A122, ∃ n123, ∃ c124, v = .tuple #[.slice A122 n123 c124, .int .i64 r.2] ∧ n123 = r.1.length ∧ St [] W w' [.row A122 n123 c124 103 2 ((recs GWindow.cells) r.1)] := by
  subst hn_p0_windows_1
  subst hn_p1_bonds_1
  unfold spec_TightWindows at hm
  refine Calls.enter (N := 43) Try.func57 rfl rfl rfl (fun a hf => ?_)
  have hs := St.start W
  obtain ⟨w, hw_⟩ : ∃ w, w = W := ⟨W, rfl⟩
  clear hw_ w
  refine wpL_seq ?_
  refine wpL_region ?_
  refine sY hf hs rfl rfl rfl (Y_assign rfl rfl) ?_; clear hf; intro a hf
  refine sY hf hs rfl rfl rfl (Y_assign rfl rfl) ?_; clear hf; intro a hf
  refine wpO_nil ?_
  refine wpL_seq ?_
  refine wpL_region ?_
  refine sY hf hs rfl rfl rfl (Y_move rfl rfl) ?_; clear hf; intro a hf
  refine sY hf hs rfl rfl rfl (Y_move rfl rfl) ?_; clear hf; intro a hf
  obtain ⟨r1, hc2, hm⟩ := bind_some hm
  refine sCall hf rfl rfl rfl rfl (cap := []) rfl rfl en110 (spec_l23Code_ok F p0_windows A_p0_windows_1 p0_windows.length c_p0_windows_1 rfl p1_bonds A_p1_bonds_1 p1_bonds.length c_p1_bonds_1 rfl true _ _ hc2 (h_p0_windows_1.at hs) (h_p1_bonds_1.at hs)) ?_; clear hf
  rintro _ w ⟨A3, n4, c5, rfl, hn6, hs1⟩ a hf
  have hs : St [] W w [.row A3 n4 c5 2 1 (ints r1.1)] := hs.join hs1
  clear hs1
  refine sY hf hs rfl rfl rfl (Y_move rfl rfl) ?_; clear hf; intro a hf
  refine sY hf hs rfl rfl rfl (Y_extract rfl rfl rfl) ?_; clear hf; intro a hf
  refine sY hf hs rfl rfl rfl (Y_extract rfl rfl rfl) ?_; clear hf; intro a hf
  refine sY hf hs rfl rfl rfl (Y_assign rfl rfl) ?_; clear hf; intro a hf
  refine sY hf hs rfl rfl rfl (Y_assign rfl rfl) ?_; clear hf; intro a hf
  refine wpO_nil ?_
  refine wpL_seq ?_
  refine wpL_seq ?_
  refine wpL_region ?_
  refine sY hf hs rfl rfl rfl (Y_move rfl rfl) ?_; clear hf; intro a hf
  refine sY hf hs rfl rfl rfl (Y_neq rfl rfl rfl) ?_; clear hf; intro a hf
  refine wpO_nil ?_
  refine wpL_cond hf rfl (fun hb7 => ?_) (fun hb7 => ?_)
  · have hm := bif_t hm hb7
    refine wpL_seq ?_
    refine wpL_region ?_
    refine sY hf hs rfl rfl rfl (Y_move rfl rfl) ?_; clear hf; intro a hf
    refine sY hf hs rfl rfl rfl (Y_assign rfl rfl) ?_; clear hf; intro a hf
    refine sY hf hs rfl rfl rfl (Y_assign rfl rfl) ?_; clear hf; intro a hf
    refine wpO_nil ?_
    have hs : St [] W _ [.row A3 n4 c5 2 1 (ints r1.1), .row none 0 0 103 2 ((recs GWindow.cells) ([] : List GWindow))] := hs.addNil 103 2
    obtain rfl := Option.some.inj hm
    refine wpL_ret (ret_tmp2 rfl hf rfl rfl ?_)
    exact ⟨_, rfl, none, 0, 0, rfl, rfl, hs.sel [1] (by decide)⟩
  · have hm := bif_f hm hb7
    refine wpL_skip ?_
    refine wpL_seq ?_
    refine wpL_region ?_
    refine sY hf hs rfl rfl rfl (Y_move rfl rfl) ?_; clear hf; intro a hf
    refine sY hf hs rfl rfl rfl (Y_move rfl rfl) ?_; clear hf; intro a hf
    obtain ⟨r9, hc10, hm⟩ := bind_some hm
    refine sCall hf rfl rfl rfl rfl (cap := []) rfl rfl en112 (spec_l23Solve_ok F p0_windows A_p0_windows_1 p0_windows.length c_p0_windows_1 rfl p1_bonds A_p1_bonds_1 p1_bonds.length c_p1_bonds_1 rfl false _ _ hc10 (h_p0_windows_1.at hs) (h_p1_bonds_1.at hs)) ?_; clear hf
    rintro _ w ⟨A11, n12, c13, rfl, hn14, hs1⟩ a hf
    have hs : St [] W w [.row A3 n4 c5 2 1 (ints r1.1), .row A11 n12 c13 2 1 (ints r9)] := hs.join hs1
    clear hs1
    refine sY hf hs rfl rfl rfl (Y_assign rfl rfl) ?_; clear hf; intro a hf
    refine wpO_nil ?_
    refine wpL_seq ?_
    refine wpL_region ?_
    refine sEmpty hf hs rfl rfl rfl rfl el53 ti103 ?_; clear hf hs; intro a w A15 hs hf
    have hs : St [] W w [.row A3 n4 c5 2 1 (ints r1.1), .row A11 n12 c13 2 1 (ints r9), .row A15 0 0 103 2 ((recs GWindow.cells) ([] : List GWindow))] := hs
    refine sY hf hs rfl rfl rfl (Y_assign rfl rfl) ?_; clear hf; intro a hf
    refine wpO_nil ?_
    refine wpL_seq ?_
    refine wpL_seq ?_
    refine wpL_region ?_
    refine sY hf hs rfl rfl rfl (Y_assign rfl rfl) ?_; clear hf; intro a hf
    refine wpO_nil ?_
    obtain ⟨r97, hl98, hm⟩ := bind_some hm
    refine wpL_block (fun a w => ∃ xs92 : List GWindow, ∃ A93, ∃ n94, ∃ c95, xs92 = r97 ∧ n94 = xs92.length ∧ Fr a 43 [(9, .slice A93 n94 c95)] ∧ St [] W w [.row A93 n94 c95 103 2 ((recs GWindow.cells) xs92)]) ?_ ?_
    · refine wpL_loop (fun n a w => ∃ xs65 : List GWindow, ∃ x70 : Int, ∃ A66, ∃ n67, ∃ c68, spec_TightWindows_L1 F r1 r9 n xs65 x70 = some r97 ∧ n67 = xs65.length ∧ Fr a 43 [(6, .slice A3 n4 c5), (8, .slice A11 n12 c13), (9, .slice A66 n67 c68), (10, .int .i64 x70)] ∧ St [] W w [.row A3 n4 c5 2 1 (ints r1.1), .row A11 n12 c13 2 1 (ints r9), .row A66 n67 c68 103 2 ((recs GWindow.cells) xs65)]) F ?_ ?_ ?_
      · exact ⟨([] : List GWindow), 0, A15, 0, 0, hl98, rfl, (Fr.pick (Fr.pick (Fr.pick (Fr.pick hf.none hf rfl) hf rfl) hf rfl) hf rfl), hs⟩
      · rintro a w ⟨xs65, x70, A66, n67, c68, h0_, -, -, -⟩; simp [spec_TightWindows_L1] at h0_
      · rintro n100 a w ⟨xs65, x70, A66, n67, c68, hm99, hn69, hf, hs⟩
        rw [spec_TightWindows_L1] at hm99
        refine wpL_seq ?_
        refine wpL_seq ?_
        refine wpL_region ?_
        refine sY hf hs rfl rfl rfl (Y_move rfl rfl) ?_; clear hf; intro a hf
        refine sY hf hs rfl rfl rfl (Y_move rfl rfl) ?_; clear hf; intro a hf
        refine sY hf hs rfl rfl rfl (Y_lenH rfl rfl el36 hn6) ?_; clear hf; intro a hf
        refine sY hf hs rfl rfl rfl (Y_lss rfl rfl rfl) ?_; clear hf; intro a hf
        refine wpO_nil ?_
        refine wpL_cond hf rfl (fun hb101 => ?_) (fun hb101 => ?_)
        · have hm99 := bif_t hm99 hb101
          refine wpL_skip ?_
          refine wpL_seq ?_
          refine wpL_block0 ?_
          refine wpL_drawG [.row A3 n4 c5 2 1 (ints r1.1), .row A11 n12 c13 2 1 (ints r9)] 13 (by kernel_rfl) hs ?_; clear hs; intro w hs
          have hs0 : St [] W w [.row A3 n4 c5 2 1 (ints r1.1), .row A11 n12 c13 2 1 (ints r9)] := hs.sel [0, 1] (by decide)
          refine gY (i := 0) [] rfl (by kernel_rfl) (by kernel_rfl) hf hs0 rfl rfl rfl (Y_move rfl rfl) ?_; clear hf; intro a hf
          refine gY (i := 1) [] rfl (by kernel_rfl) (by kernel_rfl) hf hs0 rfl rfl rfl (Y_move rfl rfl) ?_; clear hf; intro a hf
          refine gY (i := 2) [] rfl (by kernel_rfl) (by kernel_rfl) hf hs0 rfl rfl rfl (Y_move rfl rfl) ?_; clear hf; intro a hf
          obtain ⟨q112, hi113, hm99⟩ := bind_some hm99
          obtain ⟨hi113a, hi113b, hi113q⟩ := idx_some hi113
          refine gY (i := 3) [] rfl (by kernel_rfl) (by kernel_rfl) hf hs0 rfl rfl rfl (Y_index rfl rfl rfl el36 ti2 (Rd.isAt (hs0.rd (i := 0) rfl) (at1 (ints_at hi113q))) hi113a (ltn hn6 hi113b)) ?_; clear hf; intro a hf
          refine gY (i := 4) [] rfl (by kernel_rfl) (by kernel_rfl) hf hs0 rfl rfl rfl (Y_load_rd rfl rfl (fun w hs => hs.rd (i := 0) rfl) (at1 (ints_at hi113q)) ag2) ?_; clear hf; intro a hf
          refine gY (i := 5) [] rfl (by kernel_rfl) (by kernel_rfl) hf hs0 rfl rfl rfl (Y_move rfl rfl) ?_; clear hf; intro a hf
          refine gY (i := 6) [] rfl (by kernel_rfl) (by kernel_rfl) hf hs0 rfl rfl rfl (Y_move rfl rfl) ?_; clear hf; intro a hf
          obtain ⟨q114, hi115, hm99⟩ := bind_some hm99
          obtain ⟨hi115a, hi115b, hi115q⟩ := idx_some hi115
          refine gY (i := 7) [] rfl (by kernel_rfl) (by kernel_rfl) hf hs0 rfl rfl rfl (Y_index rfl rfl rfl el36 ti2 (Rd.isAt (hs0.rd (i := 1) rfl) (at1 (ints_at hi115q))) hi115a (ltn hn14 hi115b)) ?_; clear hf; intro a hf
          refine gY (i := 8) [] rfl (by kernel_rfl) (by kernel_rfl) hf hs0 rfl rfl rfl (Y_load_rd rfl rfl (fun w hs => hs.rd (i := 1) rfl) (at1 (ints_at hi115q)) ag2) ?_; clear hf; intro a hf
          refine gY (i := 9) [] rfl (by kernel_rfl) (by kernel_rfl) hf hs0 rfl rfl rfl (Y_build (parts := [(0, .tmp 34), (1, .tmp 38)]) (vs := [.int .i64 q112, .int .i64 q114]) rfl rfl (run_build (parts := [(0, .int .i64 q112), (1, .int .i64 q114)]) (cells := [.int .i64 q112, .int .i64 q114]) (places := #[(0, 1), (1, 1)]) ti103 Try.underlying103 (fun w => by simp [go_sem]) rfl)) ?_; clear hf; intro a hf
          refine gRun (i := 10) rfl (by kernel_rfl) ?_
          refine sBuildSlice (parts := [(0, .tmp 39)]) (vs := [.agg #[.int .i64 q112, .int .i64 q114]]) (cells := [.int .i64 q112, .int .i64 q114]) hf hs rfl rfl rfl rfl rfl el53 ti103 rfl rfl rfl rfl ?_; clear hf hs; intro a w A116 hs hA117 hf
          have hs : St [] W w [.row A3 n4 c5 2 1 (ints r1.1), .row A11 n12 c13 2 1 (ints r9), .row A66 n67 c68 103 2 ((recs GWindow.cells) xs65), .row A116 1 1 103 2 ((recs GWindow.cells) ([(GWindow.mk q112 q114)]))] := hs
          have hs0 : St [] W w [.row A3 n4 c5 2 1 (ints r1.1), .row A11 n12 c13 2 1 (ints r9)] := hs.sel [0, 1] (by decide)
          refine wpO_nil ⟨Or.inr hs0, ?_⟩
          refine gRun (i := 11) rfl (by kernel_rfl) ?_
          obtain ⟨xs120, ha121, hm99⟩ := bind_some hm99
          refine sAppendL (i := 2) (xs := xs65) (ys := [(GWindow.mk q112 q114)]) (enc := (recs GWindow.cells)) hf hs rfl rfl rfl rfl rfl rfl hn69 rfl rfl ha121 el53 ti103 rfl rfl rfl (hs.rd (i := 3) rfl) (Nat.succ_pos _) (recs_length GWindow.len) (recs_append GWindow.cells) (recs_one GWindow.one) ?_; clear hf hs; intro a w A118 c119 hs hf
          have hs : St [] W w [.row A3 n4 c5 2 1 (ints r1.1), .row A11 n12 c13 2 1 (ints r9), .row A118 xs120.length c119 103 2 ((recs GWindow.cells) xs120), .row A116 1 1 103 2 ((recs GWindow.cells) ([(GWindow.mk q112 q114)]))] := hs
          have hs0 : St [] W w [.row A3 n4 c5 2 1 (ints r1.1), .row A11 n12 c13 2 1 (ints r9)] := hs.sel [0, 1] (by decide)
          refine wpO_nil ⟨Or.inr hs0, ?_⟩
          refine gY (i := 12) [] rfl (by kernel_rfl) (by kernel_rfl) hf hs0 rfl rfl rfl (Y_assign rfl rfl) ?_; clear hf; intro a hf
          refine gDone (by kernel_rfl) ?_
          clear hs0
          refine wpL_nil (Qb_normal ?_)
          refine wpL_region ?_
          refine sY hf hs rfl rfl rfl (Y_move rfl rfl) ?_; clear hf; intro a hf
          refine sY hf hs rfl rfl rfl (Y_add rfl rfl rfl) ?_; clear hf; intro a hf
          refine sY hf hs rfl rfl rfl (Y_assign rfl rfl) ?_; clear hf; intro a hf
          refine wpO_nil ?_
          refine wpL_nil (Ql_normal ?_)
          exact ⟨xs120, (IntKind.i64.wrap (x70 + 1)), A118, xs120.length, c119, hm99, rfl, (Fr.pick (Fr.pick (Fr.pick (Fr.pick hf.none hf rfl) hf rfl) hf rfl) hf rfl), hs.sel [0, 1, 2] (by decide)⟩
        · have hm99 := bif_f hm99 hb101
          refine wpL_exit (Ql_exit (Qb_exit ?_))
          exact ⟨xs65, A66, n67, c68, Option.some.inj hm99, hn69, (Fr.pick hf.none hf rfl), hs.sel [2] (by decide)⟩
    · rintro a w ⟨xs92, A93, n94, c95, hr_, hn96, hf, hs⟩
      subst hr_
      try dsimp only at hm
      refine wpL_seq ?_
      refine wpL_region ?_
      refine sY hf hs rfl rfl rfl (Y_move rfl rfl) ?_; clear hf; intro a hf
      refine sY hf hs rfl rfl rfl (Y_assign rfl rfl) ?_; clear hf; intro a hf
      refine sY hf hs rfl rfl rfl (Y_assign rfl rfl) ?_; clear hf; intro a hf
      refine wpO_nil ?_
      obtain rfl := Option.some.inj hm
      refine wpL_ret (ret_tmp2 rfl hf rfl rfl ?_)
      exact ⟨_, rfl, A93, n94, c95, rfl, hn96, hs⟩

set_option maxRecDepth 100000 in
theorem impl_within_ok (F : Nat) (p0_n : Int) (p1_low : Int) (p2_high : Int) (r : Bool) (W : World) (hm : impl_within F p0_n p1_low p2_high = some r) :
    Calls Try.prog 123 [.int .i64 p0_n, .int .i64 p1_low, .int .i64 p2_high].toArray W fun e w' => ∃ v, e = .returned v ∧ v = .bool r ∧ St [] W w' [] := by
  unfold impl_within at hm
  refine Calls.enter (N := 15) Try.func123 rfl rfl rfl (fun a hf => ?_)
  have hs := St.start W
  obtain ⟨w, hw_⟩ : ∃ w, w = W := ⟨W, rfl⟩
  clear hw_ w
  refine wpL_seq ?_
  refine wpL_region ?_
  refine sY hf hs rfl rfl rfl (Y_assign rfl rfl) ?_; clear hf; intro a hf
  refine wpO_nil ?_
  refine wpL_seq ?_
  obtain ⟨r3, hj4, hm⟩ := bind_some hm
  refine wpL_cut (fun a w => ∃ b2 : Bool, b2 = r3 ∧ Fr a 15 [(6, .bool b2)] ∧ St [] W w []) ?_ ?_
  · refine wpL_region ?_
    refine sY hf hs rfl rfl rfl (Y_move rfl rfl) ?_; clear hf; intro a hf
    refine sY hf hs rfl rfl rfl (Y_move rfl rfl) ?_; clear hf; intro a hf
    refine sY hf hs rfl rfl rfl (Y_geq rfl rfl rfl) ?_; clear hf; intro a hf
    refine sY hf hs rfl rfl rfl (Y_move rfl rfl) ?_; clear hf; intro a hf
    refine bsplit (decide (p1_low ≤ p0_n)) (fun hb5 => ?_) (fun hb5 => ?_)
    · have hj4 := bif_t hj4 hb5
      refine sYg hf hs rfl rfl rfl (congrArg (fun b => some (Value.bool b)) hb5) rfl rfl rfl (Y_move rfl rfl) ?_; clear hf; intro a hf
      refine sYg hf hs rfl rfl rfl (congrArg (fun b => some (Value.bool b)) hb5) rfl rfl rfl (Y_move rfl rfl) ?_; clear hf; intro a hf
      refine sYg hf hs rfl rfl rfl (congrArg (fun b => some (Value.bool b)) hb5) rfl rfl rfl (Y_leq rfl rfl rfl) ?_; clear hf; intro a hf
      refine sY hf hs rfl rfl rfl (Y_pickT rfl (congrArg (fun b => some (Value.bool b)) hb5) rfl) ?_; clear hf; intro a hf
      refine sY hf hs rfl rfl rfl (Y_assign rfl rfl) ?_; clear hf; intro a hf
      refine wpO_nil ?_
      refine wpL_nil (then_normal ?_)
      exact ⟨(decide (p0_n ≤ p2_high)), Option.some.inj hj4, (Fr.pick hf.none hf rfl), hs⟩
    · have hj4 := bif_f hj4 hb5
      refine sNo hf rfl rfl rfl (congrArg (fun b => some (Value.bool b)) hb5) rfl rfl rfl ?_; clear hf; intro a hf
      refine sNo hf rfl rfl rfl (congrArg (fun b => some (Value.bool b)) hb5) rfl rfl rfl ?_; clear hf; intro a hf
      refine sNo hf rfl rfl rfl (congrArg (fun b => some (Value.bool b)) hb5) rfl rfl rfl ?_; clear hf; intro a hf
      refine sY hf hs rfl rfl rfl (Y_pickF rfl (congrArg (fun b => some (Value.bool b)) hb5) rfl) ?_; clear hf; intro a hf
      refine sY hf hs rfl rfl rfl (Y_assign rfl rfl) ?_; clear hf; intro a hf
      refine wpO_nil ?_
      refine wpL_nil (then_normal ?_)
      exact ⟨false, Option.some.inj hj4, (Fr.pick hf.none hf rfl), hs⟩
  · rintro a w ⟨b2, hr_, hf, hs⟩
    subst hr_
    try dsimp only at hm
    obtain rfl := Option.some.inj hm
    refine wpL_ret (ret_tmp rfl hf rfl ?_)
    exact ⟨_, rfl, rfl, hs⟩

set_option maxRecDepth 100000 in
theorem impl_isFinite_ok (F : Nat) (p0_n : Int) (r : Bool) (W : World) (hm : impl_isFinite F p0_n = some r) :
    Calls Try.prog 144 [.int .i64 p0_n].toArray W fun e w' => ∃ v, e = .returned v ∧ v = .bool r ∧ St [] W w' [] := by
  unfold impl_isFinite at hm
  refine Calls.enter (N := 5) Try.func144 rfl rfl rfl (fun a hf => ?_)
  have hs := St.start W
  obtain ⟨w, hw_⟩ : ∃ w, w = W := ⟨W, rfl⟩
  clear hw_ w
  refine wpL_seq ?_
  refine wpL_region ?_
  refine sY hf hs rfl rfl rfl (Y_assign rfl rfl) ?_; clear hf; intro a hf
  refine wpO_nil ?_
  refine wpL_seq ?_
  refine wpL_region ?_
  refine sY hf hs rfl rfl rfl (Y_move rfl rfl) ?_; clear hf; intro a hf
  obtain ⟨r1, hc2, hm⟩ := bind_some hm
  refine sCall hf rfl rfl rfl rfl (cap := []) rfl rfl en123 (impl_within_ok F p0_n (-1000000) 1000000 _ _ hc2) ?_; clear hf
  rintro _ w ⟨rfl, hs1⟩ a hf
  have hs : St [] W w [] := hs.ext hs1.below
  clear hs1
  refine sY hf hs rfl rfl rfl (Y_assign rfl rfl) ?_; clear hf; intro a hf
  refine wpO_nil ?_
  obtain rfl := Option.some.inj hm
  refine wpL_ret (ret_tmp rfl hf rfl ?_)
  exact ⟨_, rfl, rfl, hs⟩

set_option maxRecDepth 100000 in
theorem impl_IsTask_c1_ok (F : Nat) (p0_b : GBond) (b_z0 : Nat) (z0 : Int) (r : Bool) (W : World) (hm : impl_IsTask_c1 F p0_b z0 = some r) (h_z0 : PB W b_z0 2 [.int .i64 z0]) :
    Calls Try.prog 143 [.agg #[.int .i64 p0_b.From, .int .i64 p0_b.To, .int .i64 p0_b.Least], .pointer (some ⟨b_z0, 0, none⟩)].toArray W fun e w' => ∃ v, e = .returned v ∧ v = .bool r ∧ St [] W w' [] := by
  unfold impl_IsTask_c1 at hm
  refine Calls.enter (N := 22) Try.func143 rfl rfl rfl (fun a hf => ?_)
  have hs := St.start W
  obtain ⟨w, hw_⟩ : ∃ w, w = W := ⟨W, rfl⟩
  clear hw_ w
  refine wpL_seq ?_
  refine wpL_region ?_
  refine sBox hf hs rfl rfl rfl rfl rfl (cs := [.int .i64 p0_b.From, .int .i64 p0_b.To, .int .i64 p0_b.Least]) rfl ?_; clear hf hs; intro a w b1 hs hf
  have hs : St [] W w [.blk b1 107 [.int .i64 p0_b.From, .int .i64 p0_b.To, .int .i64 p0_b.Least]] := hs
  refine sY hf hs rfl rfl rfl (Y_assign rfl rfl) ?_; clear hf; intro a hf
  refine wpO_nil ?_
  refine wpL_seq ?_
  obtain ⟨r11, hj12, hm⟩ := bind_some hm
  refine wpL_cut (fun a w => ∃ b10 : Bool, b10 = r11 ∧ Fr a 22 [(3, .bool b10)] ∧ St [] W w []) ?_ ?_
  · refine wpL_region ?_
    refine sY hf hs rfl rfl rfl (Y_fieldAddr rfl rfl fo107_0) ?_; clear hf; intro a hf
    refine sY hf hs rfl rfl rfl (Y_load_blk rfl rfl (i := 0) rfl rfl ag2) ?_; clear hf; intro a hf
    refine sY hf hs rfl rfl rfl (Y_load_pb rfl rfl h_z0 rfl ag2) ?_; clear hf; intro a hf
    obtain ⟨r13, hc14, hj12⟩ := bind_some hj12
    refine sCall hf rfl rfl rfl rfl (cap := []) rfl rfl en123 (impl_within_ok F p0_b.From 0 z0 _ _ hc14) ?_; clear hf
    rintro _ w ⟨rfl, hs1⟩ a hf
    have hs : St [] W w [.blk b1 107 [.int .i64 p0_b.From, .int .i64 p0_b.To, .int .i64 p0_b.Least]] := hs.ext hs1.below
    clear hs1
    refine sY hf hs rfl rfl rfl (Y_not rfl rfl) ?_; clear hf; intro a hf
    refine sY hf hs rfl rfl rfl (Y_move rfl rfl) ?_; clear hf; intro a hf
    refine bsplit (!r13) (fun hb15 => ?_) (fun hb15 => ?_)
    · have hj12 := bif_t hj12 hb15
      refine sNo hf rfl rfl rfl (congrArg (fun b => some (Value.bool b)) hb15) rfl rfl rfl ?_; clear hf; intro a hf
      refine sNo hf rfl rfl rfl (congrArg (fun b => some (Value.bool b)) hb15) rfl rfl rfl ?_; clear hf; intro a hf
      refine sNo hf rfl rfl rfl (congrArg (fun b => some (Value.bool b)) hb15) rfl rfl rfl ?_; clear hf; intro a hf
      refine sNo hf rfl rfl rfl (congrArg (fun b => some (Value.bool b)) hb15) rfl rfl rfl ?_; clear hf; intro a hf
      refine sNo hf rfl rfl rfl (congrArg (fun b => some (Value.bool b)) hb15) rfl rfl rfl ?_; clear hf; intro a hf
      refine sY hf hs rfl rfl rfl (Y_pickT rfl (congrArg (fun b => some (Value.bool b)) hb15) rfl) ?_; clear hf; intro a hf
      refine sY hf hs rfl rfl rfl (Y_move rfl rfl) ?_; clear hf; intro a hf
      refine sNo hf rfl rfl rfl rfl rfl rfl rfl ?_; clear hf; intro a hf
      refine sNo hf rfl rfl rfl rfl rfl rfl rfl ?_; clear hf; intro a hf
      refine sNo hf rfl rfl rfl rfl rfl rfl rfl ?_; clear hf; intro a hf
      refine sNo hf rfl rfl rfl rfl rfl rfl rfl ?_; clear hf; intro a hf
      refine sY hf hs rfl rfl rfl (Y_pickT rfl rfl rfl) ?_; clear hf; intro a hf
      refine sY hf hs rfl rfl rfl (Y_assign rfl rfl) ?_; clear hf; intro a hf
      refine wpO_nil ?_
      refine wpL_nil (then_normal ?_)
      exact ⟨true, Option.some.inj hj12, (Fr.pick hf.none hf rfl), hs.sel [] (by decide)⟩
    · have hj12 := bif_f hj12 hb15
      refine sYg hf hs rfl rfl rfl (congrArg (fun b => some (Value.bool b)) hb15) rfl rfl rfl (Y_fieldAddr rfl rfl fo107_1) ?_; clear hf; intro a hf
      refine sYg hf hs rfl rfl rfl (congrArg (fun b => some (Value.bool b)) hb15) rfl rfl rfl (Y_load_blk rfl rfl (i := 0) rfl rfl ag2) ?_; clear hf; intro a hf
      refine sYg hf hs rfl rfl rfl (congrArg (fun b => some (Value.bool b)) hb15) rfl rfl rfl (Y_load_pb rfl rfl h_z0 rfl ag2) ?_; clear hf; intro a hf
      obtain ⟨r16, hc17, hj12⟩ := bind_some hj12
      refine sCallg hf rfl rfl rfl (congrArg (fun b => some (Value.bool b)) hb15) rfl rfl rfl rfl (cap := []) rfl rfl en123 (impl_within_ok F p0_b.To 0 z0 _ _ hc17) ?_; clear hf
      rintro _ w ⟨rfl, hs1⟩ a hf
      have hs : St [] W w [.blk b1 107 [.int .i64 p0_b.From, .int .i64 p0_b.To, .int .i64 p0_b.Least]] := hs.ext hs1.below
      clear hs1
      refine sYg hf hs rfl rfl rfl (congrArg (fun b => some (Value.bool b)) hb15) rfl rfl rfl (Y_not rfl rfl) ?_; clear hf; intro a hf
      refine sY hf hs rfl rfl rfl (Y_pickF rfl (congrArg (fun b => some (Value.bool b)) hb15) rfl) ?_; clear hf; intro a hf
      refine sY hf hs rfl rfl rfl (Y_move rfl rfl) ?_; clear hf; intro a hf
      refine bsplit (!r16) (fun hb18 => ?_) (fun hb18 => ?_)
      · have hj12 := bif_t hj12 hb18
        refine sNo hf rfl rfl rfl (congrArg (fun b => some (Value.bool b)) hb18) rfl rfl rfl ?_; clear hf; intro a hf
        refine sNo hf rfl rfl rfl (congrArg (fun b => some (Value.bool b)) hb18) rfl rfl rfl ?_; clear hf; intro a hf
        refine sNo hf rfl rfl rfl (congrArg (fun b => some (Value.bool b)) hb18) rfl rfl rfl ?_; clear hf; intro a hf
        refine sNo hf rfl rfl rfl (congrArg (fun b => some (Value.bool b)) hb18) rfl rfl rfl ?_; clear hf; intro a hf
        refine sY hf hs rfl rfl rfl (Y_pickT rfl (congrArg (fun b => some (Value.bool b)) hb18) rfl) ?_; clear hf; intro a hf
        refine sY hf hs rfl rfl rfl (Y_assign rfl rfl) ?_; clear hf; intro a hf
        refine wpO_nil ?_
        refine wpL_nil (then_normal ?_)
        exact ⟨true, Option.some.inj hj12, (Fr.pick hf.none hf rfl), hs.sel [] (by decide)⟩
      · have hj12 := bif_f hj12 hb18
        refine sYg hf hs rfl rfl rfl (congrArg (fun b => some (Value.bool b)) hb18) rfl rfl rfl (Y_fieldAddr rfl rfl fo107_2) ?_; clear hf; intro a hf
        refine sYg hf hs rfl rfl rfl (congrArg (fun b => some (Value.bool b)) hb18) rfl rfl rfl (Y_load_blk rfl rfl (i := 0) rfl rfl ag2) ?_; clear hf; intro a hf
        obtain ⟨r19, hc20, hj12⟩ := bind_some hj12
        refine sCallg hf rfl rfl rfl (congrArg (fun b => some (Value.bool b)) hb18) rfl rfl rfl rfl (cap := []) rfl rfl en144 (impl_isFinite_ok F p0_b.Least _ _ hc20) ?_; clear hf
        rintro _ w ⟨rfl, hs1⟩ a hf
        have hs : St [] W w [.blk b1 107 [.int .i64 p0_b.From, .int .i64 p0_b.To, .int .i64 p0_b.Least]] := hs.ext hs1.below
        clear hs1
        refine sYg hf hs rfl rfl rfl (congrArg (fun b => some (Value.bool b)) hb18) rfl rfl rfl (Y_not rfl rfl) ?_; clear hf; intro a hf
        refine sY hf hs rfl rfl rfl (Y_pickF rfl (congrArg (fun b => some (Value.bool b)) hb18) rfl) ?_; clear hf; intro a hf
        refine sY hf hs rfl rfl rfl (Y_assign rfl rfl) ?_; clear hf; intro a hf
        refine wpO_nil ?_
        refine wpL_nil (then_normal ?_)
        exact ⟨(!r19), Option.some.inj hj12, (Fr.pick hf.none hf rfl), hs.sel [] (by decide)⟩
  · rintro a w ⟨b10, hr_, hf, hs⟩
    subst hr_
    try dsimp only at hm
    obtain rfl := Option.some.inj hm
    refine wpL_ret (ret_tmp rfl hf rfl ?_)
    exact ⟨_, rfl, rfl, hs⟩

set_option maxRecDepth 100000 in
theorem slices_IndexFunc_Bond_ok (F : Nat) (p0_s : List GBond) (A_p0_s_1 : Option Addr) (n_p0_s_1 c_p0_s_1 : Nat) (hn_p0_s_1 : n_p0_s_1 = p0_s.length) (m_p1_f : GBond → Option Bool) (f_p1_f : FuncId) (k_p1_f : List Value) (r : Int) (W : World) (hm : slices_IndexFunc_Bond F p0_s m_p1_f = some r) (h_p0_s_1 : Rd W A_p0_s_1 ((recs GBond.cells) p0_s)) (h_p1_f : ∀ (x0 : GBond) (r : Bool) (w : World), m_p1_f x0 = some r → Below W.heap.size W w → Calls Try.prog f_p1_f (([.agg #[.int .i64 x0.From, .int .i64 x0.To, .int .i64 x0.Least]] : List Value) ++ k_p1_f).toArray w fun e w' => ∃ v, e = .returned v ∧ v = .bool r ∧ St [] w w' []) (e_p1_f : En Try.prog f_p1_f) :
    Calls Try.prog 172 [.slice A_p0_s_1 n_p0_s_1 c_p0_s_1, .func (.func f_p1_f) #[] k_p1_f.toArray].toArray W fun e w' => ∃ v, e = .returned v ∧ v = .int .i64 r ∧ St [] W w' [] := by
  subst hn_p0_s_1
  unfold slices_IndexFunc_Bond at hm
  refine Calls.enter (N := 19) Try.func172 rfl rfl rfl (fun a hf => ?_)
  have hs := St.start W
  obtain ⟨w, hw_⟩ : ∃ w, w = W := ⟨W, rfl⟩
  clear hw_ w
  refine wpL_seq ?_
  refine wpL_region ?_
  refine sY hf hs rfl rfl rfl (Y_assign rfl rfl) ?_; clear hf; intro a hf
  refine wpO_nil ?_
  refine wpL_seq ?_
  refine wpL_seq ?_
  refine wpL_region ?_
  refine sY hf hs rfl rfl rfl (Y_move rfl rfl) ?_; clear hf; intro a hf
  refine sY hf hs rfl rfl rfl (Y_lenH rfl rfl el55 rfl) ?_; clear hf; intro a hf
  refine sY hf hs rfl rfl rfl (Y_move rfl rfl) ?_; clear hf; intro a hf
  refine wpO_nil ?_
  obtain ⟨r21, hl22, hm⟩ := bind_some hm
  refine wpL_block (fun a w => Sum.inr () = r21 ∧ Fr a 19 [] ∧ St [] W w []) ?_ ?_
  · refine wpL_loop (fun n a w => ∃ x14 : Int, slices_IndexFunc_Bond_L1 F p0_s m_p1_f n x14 = some r21 ∧ Fr a 19 [(0, .slice A_p0_s_1 p0_s.length c_p0_s_1), (1, .func (.func f_p1_f) #[] k_p1_f.toArray), (7, .int .i64 (p0_s.length : Int)), (8, .int .i64 x14)] ∧ St [] W w []) F ?_ ?_ ?_
    · exact ⟨0, hl22, (Fr.pick (Fr.pick (Fr.pick (Fr.pick hf.none hf rfl) hf rfl) hf rfl) hf rfl), hs⟩
    · rintro a w ⟨x14, h0_, -, -⟩; simp [slices_IndexFunc_Bond_L1] at h0_
    · rintro n24 a w ⟨x14, hm23, hf, hs⟩
      rw [slices_IndexFunc_Bond_L1] at hm23
      refine wpL_seq ?_
      refine wpL_region ?_
      refine sY hf hs rfl rfl rfl (Y_lss rfl rfl rfl) ?_; clear hf; intro a hf
      refine wpO_nil ?_
      refine wpL_seq ?_
      refine wpL_cond hf rfl (fun hb25 => ?_) (fun hb25 => ?_)
      · have hm23 := bif_t hm23 hb25
        refine wpL_skip ?_
        refine wpL_seq ?_
        refine wpL_block0 ?_
        refine wpL_seq ?_
        refine wpL_region ?_
        refine sY hf hs rfl rfl rfl (Y_move rfl rfl) ?_; clear hf; intro a hf
        refine sY hf hs rfl rfl rfl (Y_assign rfl rfl) ?_; clear hf; intro a hf
        refine wpO_nil ?_
        refine wpL_seq ?_
        refine wpL_region ?_
        refine sY hf hs rfl rfl rfl (Y_move rfl rfl) ?_; clear hf; intro a hf
        refine sY hf hs rfl rfl rfl (Y_move rfl rfl) ?_; clear hf; intro a hf
        refine sY hf hs rfl rfl rfl (Y_move rfl rfl) ?_; clear hf; intro a hf
        obtain ⟨q26, hi27, hm23⟩ := bind_some hm23
        obtain ⟨hi27a, hi27b, hi27q⟩ := idx_some hi27
        refine sY hf hs rfl rfl rfl (Y_index rfl rfl rfl el55 ti107 (Rd.isAt (h_p0_s_1.at hs) (recs_at (s := 3) GBond.len hi27q (j := 0) rfl)) hi27a hi27b) ?_; clear hf; intro a hf
        refine sY hf hs rfl rfl rfl (Y_load_rdS rfl rfl (us := [.int .i64 q26.From, .int .i64 q26.To, .int .i64 q26.Least]) (fun w hs => h_p0_s_1.at hs) (fun j u hj => recs_at (s := 3) GBond.len hi27q hj) (Nat.succ_pos _) ag107 ti107 rfl) ?_; clear hf; intro a hf
        obtain ⟨r28, hc29, hm23⟩ := bind_some hm23
        refine sCall hf rfl rfl rfl rfl (cap := k_p1_f) rfl rfl e_p1_f (h_p1_f q26 _ _ hc29 hs.below) ?_; clear hf; rintro _ w ⟨rfl, hs1⟩ a hf; have hs := hs.ext hs1.below; clear hs1
        refine wpO_nil ?_
        refine wpL_cond hf rfl (fun hb30 => ?_) (fun hb30 => ?_)
        · have hm23 := bif_t hm23 hb30
          refine wpL_seq ?_
          refine wpL_region ?_
          refine sY hf hs rfl rfl rfl (Y_move rfl rfl) ?_; clear hf; intro a hf
          refine sY hf hs rfl rfl rfl (Y_assign rfl rfl) ?_; clear hf; intro a hf
          refine wpO_nil ?_
          obtain rfl := Option.some.inj hm23
          try dsimp only at hm
          obtain rfl := Option.some.inj hm
          refine wpL_ret (Qb_ret (Ql_ret (Qb_ret (ret_tmp rfl hf rfl ?_))))
          exact ⟨_, rfl, rfl, hs⟩
        · have hm23 := bif_f hm23 hb30
          refine wpL_skip ?_
          refine wpL_nil (Qb_normal ?_)
          refine wpL_region ?_
          refine sY hf hs rfl rfl rfl (Y_add rfl rfl rfl) ?_; clear hf; intro a hf
          refine sY hf hs rfl rfl rfl (Y_move rfl rfl) ?_; clear hf; intro a hf
          refine wpO_nil ?_
          refine wpL_nil (Ql_normal ?_)
          exact ⟨(IntKind.i64.wrap (x14 + 1)), hm23, (Fr.pick (Fr.pick (Fr.pick (Fr.pick hf.none hf rfl) hf rfl) hf rfl) hf rfl), hs⟩
      · have hm23 := bif_f hm23 hb25
        refine wpL_exit (Ql_exit (Qb_exit ?_))
        exact ⟨Option.some.inj hm23, hf.none, hs⟩
  · rintro a w ⟨hr_, hf, hs⟩
    subst hr_
    try dsimp only at hm
    refine wpL_seq ?_
    refine wpL_region ?_
    refine sY hf hs rfl rfl rfl (Y_assign rfl rfl) ?_; clear hf; intro a hf
    refine wpO_nil ?_
    obtain rfl := Option.some.inj hm
    refine wpL_ret (ret_tmp rfl hf rfl ?_)
    exact ⟨_, rfl, rfl, hs⟩

set_option maxRecDepth 100000 in
theorem slices_ContainsFunc_Bond_ok (F : Nat) (p0_s : List GBond) (A_p0_s_1 : Option Addr) (n_p0_s_1 c_p0_s_1 : Nat) (hn_p0_s_1 : n_p0_s_1 = p0_s.length) (m_p1_f : GBond → Option Bool) (f_p1_f : FuncId) (k_p1_f : List Value) (r : Bool) (W : World) (hm : slices_ContainsFunc_Bond F p0_s m_p1_f = some r) (h_p0_s_1 : Rd W A_p0_s_1 ((recs GBond.cells) p0_s)) (h_p1_f : ∀ (x0 : GBond) (r : Bool) (w : World), m_p1_f x0 = some r → Below W.heap.size W w → Calls Try.prog f_p1_f (([.agg #[.int .i64 x0.From, .int .i64 x0.To, .int .i64 x0.Least]] : List Value) ++ k_p1_f).toArray w fun e w' => ∃ v, e = .returned v ∧ v = .bool r ∧ St [] w w' []) (e_p1_f : En Try.prog f_p1_f) :
    Calls Try.prog 142 [.slice A_p0_s_1 n_p0_s_1 c_p0_s_1, .func (.func f_p1_f) #[] k_p1_f.toArray].toArray W fun e w' => ∃ v, e = .returned v ∧ v = .bool r ∧ St [] W w' [] := by
  subst hn_p0_s_1
  unfold slices_ContainsFunc_Bond at hm
  refine Calls.enter (N := 9) Try.func142 rfl rfl rfl (fun a hf => ?_)
  have hs := St.start W
  obtain ⟨w, hw_⟩ : ∃ w, w = W := ⟨W, rfl⟩
  clear hw_ w
  refine wpL_seq ?_
  refine wpL_region ?_
  refine sY hf hs rfl rfl rfl (Y_assign rfl rfl) ?_; clear hf; intro a hf
  refine wpO_nil ?_
  refine wpL_seq ?_
  refine wpL_region ?_
  refine sY hf hs rfl rfl rfl (Y_move rfl rfl) ?_; clear hf; intro a hf
  refine sY hf hs rfl rfl rfl (Y_move rfl rfl) ?_; clear hf; intro a hf
  obtain ⟨r1, hc2, hm⟩ := bind_some hm
  refine sCall hf rfl rfl rfl rfl (cap := []) rfl rfl en172 (slices_IndexFunc_Bond_ok F p0_s A_p0_s_1 p0_s.length c_p0_s_1 rfl m_p1_f f_p1_f k_p1_f _ _ hc2 (h_p0_s_1.at hs) (fun x0 r w' hm_ hb => h_p1_f x0 r w' hm_ (hs.below.trans (hb.mono hs.below.size))) e_p1_f) ?_; clear hf
  rintro _ w ⟨rfl, hs1⟩ a hf
  have hs : St [] W w [] := hs.ext hs1.below
  clear hs1
  refine sY hf hs rfl rfl rfl (Y_geq rfl rfl rfl) ?_; clear hf; intro a hf
  refine sY hf hs rfl rfl rfl (Y_assign rfl rfl) ?_; clear hf; intro a hf
  refine wpO_nil ?_
  obtain rfl := Option.some.inj hm
  refine wpL_ret (ret_tmp rfl hf rfl ?_)
  exact ⟨_, rfl, rfl, hs⟩

set_option maxRecDepth 100000 in
theorem impl_IsTask_ok (F : Nat) (p0_windows : List GWindow) (A_p0_windows_1 : Option Addr) (n_p0_windows_1 c_p0_windows_1 : Nat) (hn_p0_windows_1 : n_p0_windows_1 = p0_windows.length) (p1_bonds : List GBond) (A_p1_bonds_1 : Option Addr) (n_p1_bonds_1 c_p1_bonds_1 : Nat) (hn_p1_bonds_1 : n_p1_bonds_1 = p1_bonds.length) (r : Bool) (W : World) (hm : impl_IsTask F p0_windows p1_bonds = some r) (h_p0_windows_1 : Rd W A_p0_windows_1 ((recs GWindow.cells) p0_windows)) (h_p1_bonds_1 : Rd W A_p1_bonds_1 ((recs GBond.cells) p1_bonds)) :
    Calls Try.prog 97 [.slice A_p0_windows_1 n_p0_windows_1 c_p0_windows_1, .slice A_p1_bonds_1 n_p1_bonds_1 c_p1_bonds_1].toArray W fun e w' => ∃ v, e = .returned v ∧ v = .bool r ∧ St [] W w' [] := by
  subst hn_p0_windows_1
  subst hn_p1_bonds_1
  unfold impl_IsTask at hm
  refine Calls.enter (N := 46) Try.func97 rfl rfl rfl (fun a hf => ?_)
  have hs := St.start W
  obtain ⟨w, hw_⟩ : ∃ w, w = W := ⟨W, rfl⟩
  clear hw_ w
  refine wpL_seq ?_
  refine wpL_region ?_
  refine sY hf hs rfl rfl rfl (Y_assign rfl rfl) ?_; clear hf; intro a hf
  refine wpO_nil ?_
  refine wpL_seq ?_
  refine wpL_seq ?_
  obtain ⟨r5, hj6, hm⟩ := bind_some hm
  refine wpL_cut (fun a w => ∃ b4 : Bool, b4 = r5 ∧ Fr a 46 [(0, .slice A_p0_windows_1 p0_windows.length c_p0_windows_1), (1, .slice A_p1_bonds_1 p1_bonds.length c_p1_bonds_1), (16, .bool b4)] ∧ St [] W w []) ?_ ?_
  · refine wpL_region ?_
    refine sY hf hs rfl rfl rfl (Y_move rfl rfl) ?_; clear hf; intro a hf
    refine sY hf hs rfl rfl rfl (Y_lenH rfl rfl el53 rfl) ?_; clear hf; intro a hf
    obtain ⟨r7, hc8, hj6⟩ := bind_some hj6
    refine sCall hf rfl rfl rfl rfl (cap := []) rfl rfl en123 (impl_within_ok F (p0_windows.length : Int) 1 10 _ _ hc8) ?_; clear hf
    rintro _ w ⟨rfl, hs1⟩ a hf
    have hs : St [] W w [] := hs.ext hs1.below
    clear hs1
    refine sY hf hs rfl rfl rfl (Y_not rfl rfl) ?_; clear hf; intro a hf
    refine sY hf hs rfl rfl rfl (Y_move rfl rfl) ?_; clear hf; intro a hf
    refine bsplit (!r7) (fun hb9 => ?_) (fun hb9 => ?_)
    · have hj6 := bif_t hj6 hb9
      refine sNo hf rfl rfl rfl (congrArg (fun b => some (Value.bool b)) hb9) rfl rfl rfl ?_; clear hf; intro a hf
      refine sNo hf rfl rfl rfl (congrArg (fun b => some (Value.bool b)) hb9) rfl rfl rfl ?_; clear hf; intro a hf
      refine sNo hf rfl rfl rfl (congrArg (fun b => some (Value.bool b)) hb9) rfl rfl rfl ?_; clear hf; intro a hf
      refine sY hf hs rfl rfl rfl (Y_pickT rfl (congrArg (fun b => some (Value.bool b)) hb9) rfl) ?_; clear hf; intro a hf
      refine wpO_nil ?_
      refine wpL_nil (then_normal ?_)
      exact ⟨true, Option.some.inj hj6, (Fr.pick (Fr.pick (Fr.pick hf.none hf rfl) hf rfl) hf rfl), hs⟩
    · have hj6 := bif_f hj6 hb9
      refine sYg hf hs rfl rfl rfl (congrArg (fun b => some (Value.bool b)) hb9) rfl rfl rfl (Y_move rfl rfl) ?_; clear hf; intro a hf
      refine sYg hf hs rfl rfl rfl (congrArg (fun b => some (Value.bool b)) hb9) rfl rfl rfl (Y_lenH rfl rfl el55 rfl) ?_; clear hf; intro a hf
      refine sYg hf hs rfl rfl rfl (congrArg (fun b => some (Value.bool b)) hb9) rfl rfl rfl (Y_gtr rfl rfl rfl) ?_; clear hf; intro a hf
      refine sY hf hs rfl rfl rfl (Y_pickF rfl (congrArg (fun b => some (Value.bool b)) hb9) rfl) ?_; clear hf; intro a hf
      refine wpO_nil ?_
      refine wpL_nil (then_normal ?_)
      exact ⟨(decide (30 < (p1_bonds.length : Int))), Option.some.inj hj6, (Fr.pick (Fr.pick (Fr.pick hf.none hf rfl) hf rfl) hf rfl), hs⟩
  · rintro a w ⟨b4, hr_, hf, hs⟩
    subst hr_
    try dsimp only at hm
    refine wpL_cond hf rfl (fun hb10 => ?_) (fun hb10 => ?_)
    · have hm := bif_t hm hb10
      refine wpL_seq ?_
      refine wpL_region ?_
      refine sY hf hs rfl rfl rfl (Y_assign rfl rfl) ?_; clear hf; intro a hf
      refine wpO_nil ?_
      obtain rfl := Option.some.inj hm
      refine wpL_ret (ret_tmp rfl hf rfl ?_)
      exact ⟨_, rfl, rfl, hs⟩
    · have hm := bif_f hm hb10
      refine wpL_skip ?_
      refine wpL_seq ?_
      refine wpL_seq ?_
      refine wpL_region ?_
      refine sY hf hs rfl rfl rfl (Y_move rfl rfl) ?_; clear hf; intro a hf
      refine sY hf hs rfl rfl rfl (Y_lenH rfl rfl el53 rfl) ?_; clear hf; intro a hf
      refine sY hf hs rfl rfl rfl (Y_move rfl rfl) ?_; clear hf; intro a hf
      refine wpO_nil ?_
      obtain ⟨r49, hl50, hm⟩ := bind_some hm
      refine wpL_block (fun a w => Sum.inr () = r49 ∧ Fr a 46 [(0, .slice A_p0_windows_1 p0_windows.length c_p0_windows_1), (1, .slice A_p1_bonds_1 p1_bonds.length c_p1_bonds_1)] ∧ St [] W w []) ?_ ?_
      · refine wpL_loop (fun n a w => ∃ x36 : Int, impl_IsTask_L1 F p0_windows n x36 = some r49 ∧ Fr a 46 [(0, .slice A_p0_windows_1 p0_windows.length c_p0_windows_1), (1, .slice A_p1_bonds_1 p1_bonds.length c_p1_bonds_1), (17, .slice A_p0_windows_1 p0_windows.length c_p0_windows_1), (18, .int .i64 (p0_windows.length : Int)), (19, .int .i64 x36)] ∧ St [] W w []) F ?_ ?_ ?_
        · exact ⟨0, hl50, (Fr.pick (Fr.pick (Fr.pick (Fr.pick (Fr.pick hf.none hf rfl) hf rfl) hf rfl) hf rfl) hf rfl), hs⟩
        · rintro a w ⟨x36, h0_, -, -⟩; simp [impl_IsTask_L1] at h0_
        · rintro n52 a w ⟨x36, hm51, hf, hs⟩
          rw [impl_IsTask_L1] at hm51
          refine wpL_seq ?_
          refine wpL_region ?_
          refine sY hf hs rfl rfl rfl (Y_lss rfl rfl rfl) ?_; clear hf; intro a hf
          refine wpO_nil ?_
          refine wpL_seq ?_
          refine wpL_cond hf rfl (fun hb53 => ?_) (fun hb53 => ?_)
          · have hm51 := bif_t hm51 hb53
            refine wpL_skip ?_
            refine wpL_seq ?_
            refine wpL_block0 ?_
            refine wpL_seq ?_
            refine wpL_region ?_
            obtain ⟨q54, hi55, hm51⟩ := bind_some hm51
            obtain ⟨hi55a, hi55b, hi55q⟩ := idx_some hi55
            refine sY hf hs rfl rfl rfl (Y_index rfl rfl rfl el53 ti103 (Rd.isAt (h_p0_windows_1.at hs) (recs_at (s := 2) GWindow.len hi55q (j := 0) rfl)) hi55a hi55b) ?_; clear hf; intro a hf
            refine sY hf hs rfl rfl rfl (Y_load_rdS rfl rfl (us := [.int .i64 q54.Low, .int .i64 q54.High]) (fun w hs => h_p0_windows_1.at hs) (fun j u hj => recs_at (s := 2) GWindow.len hi55q hj) (Nat.succ_pos _) ag103 ti103 rfl) ?_; clear hf; intro a hf
            refine sAlloc hf hs rfl rfl rfl rfl ti103 ?_; clear hf hs; intro a w b56 hs hf
            have hs : St [] W w [.blk b56 103 [.int .i64 0, .int .i64 0]] := hs
            refine sStore (i := 0) (us := [.int .i64 q54.Low, .int .i64 q54.High]) hf hs rfl rfl rfl rfl rfl rfl ti103 rfl rfl rfl (Nat.le_of_ble_eq_true rfl) rfl ?_; clear hs; intro w hs
            have hs : St [] W w [.blk b56 103 [.int .i64 q54.Low, .int .i64 q54.High]] := hs
            refine wpO_nil ?_
            refine wpL_seq ?_
            obtain ⟨r60, hj61, hm51⟩ := bind_some hm51
            refine wpL_cut (fun a w => ∃ b59 : Bool, b59 = r60 ∧ Fr a 46 [(0, .slice A_p0_windows_1 p0_windows.length c_p0_windows_1), (1, .slice A_p1_bonds_1 p1_bonds.length c_p1_bonds_1), (17, .slice A_p0_windows_1 p0_windows.length c_p0_windows_1), (18, .int .i64 (p0_windows.length : Int)), (19, .int .i64 x36), (37, .bool b59)] ∧ St [] W w []) ?_ ?_
            · refine wpL_region ?_
              refine sY hf hs rfl rfl rfl (Y_fieldAddr rfl rfl fo103_0) ?_; clear hf; intro a hf
              refine sY hf hs rfl rfl rfl (Y_load_blk rfl rfl (i := 0) rfl rfl ag2) ?_; clear hf; intro a hf
              refine sY hf hs rfl rfl rfl (Y_lss rfl rfl rfl) ?_; clear hf; intro a hf
              refine sY hf hs rfl rfl rfl (Y_move rfl rfl) ?_; clear hf; intro a hf
              refine bsplit (decide (q54.Low < 0)) (fun hb62 => ?_) (fun hb62 => ?_)
              · have hj61 := bif_t hj61 hb62
                refine sNo hf rfl rfl rfl (congrArg (fun b => some (Value.bool b)) hb62) rfl rfl rfl ?_; clear hf; intro a hf
                refine sNo hf rfl rfl rfl (congrArg (fun b => some (Value.bool b)) hb62) rfl rfl rfl ?_; clear hf; intro a hf
                refine sNo hf rfl rfl rfl (congrArg (fun b => some (Value.bool b)) hb62) rfl rfl rfl ?_; clear hf; intro a hf
                refine sNo hf rfl rfl rfl (congrArg (fun b => some (Value.bool b)) hb62) rfl rfl rfl ?_; clear hf; intro a hf
                refine sNo hf rfl rfl rfl (congrArg (fun b => some (Value.bool b)) hb62) rfl rfl rfl ?_; clear hf; intro a hf
                refine sY hf hs rfl rfl rfl (Y_pickT rfl (congrArg (fun b => some (Value.bool b)) hb62) rfl) ?_; clear hf; intro a hf
                refine sY hf hs rfl rfl rfl (Y_move rfl rfl) ?_; clear hf; intro a hf
                refine sNo hf rfl rfl rfl rfl rfl rfl rfl ?_; clear hf; intro a hf
                refine sNo hf rfl rfl rfl rfl rfl rfl rfl ?_; clear hf; intro a hf
                refine sNo hf rfl rfl rfl rfl rfl rfl rfl ?_; clear hf; intro a hf
                refine sY hf hs rfl rfl rfl (Y_pickT rfl rfl rfl) ?_; clear hf; intro a hf
                refine wpO_nil ?_
                refine wpL_nil (then_normal ?_)
                exact ⟨true, Option.some.inj hj61, (Fr.pick (Fr.pick (Fr.pick (Fr.pick (Fr.pick (Fr.pick hf.none hf rfl) hf rfl) hf rfl) hf rfl) hf rfl) hf rfl), hs.sel [] (by decide)⟩
              · have hj61 := bif_f hj61 hb62
                refine sYg hf hs rfl rfl rfl (congrArg (fun b => some (Value.bool b)) hb62) rfl rfl rfl (Y_fieldAddr rfl rfl fo103_0) ?_; clear hf; intro a hf
                refine sYg hf hs rfl rfl rfl (congrArg (fun b => some (Value.bool b)) hb62) rfl rfl rfl (Y_load_blk rfl rfl (i := 0) rfl rfl ag2) ?_; clear hf; intro a hf
                refine sYg hf hs rfl rfl rfl (congrArg (fun b => some (Value.bool b)) hb62) rfl rfl rfl (Y_fieldAddr rfl rfl fo103_1) ?_; clear hf; intro a hf
                refine sYg hf hs rfl rfl rfl (congrArg (fun b => some (Value.bool b)) hb62) rfl rfl rfl (Y_load_blk rfl rfl (i := 0) rfl rfl ag2) ?_; clear hf; intro a hf
                refine sYg hf hs rfl rfl rfl (congrArg (fun b => some (Value.bool b)) hb62) rfl rfl rfl (Y_gtr rfl rfl rfl) ?_; clear hf; intro a hf
                refine sY hf hs rfl rfl rfl (Y_pickF rfl (congrArg (fun b => some (Value.bool b)) hb62) rfl) ?_; clear hf; intro a hf
                refine sY hf hs rfl rfl rfl (Y_move rfl rfl) ?_; clear hf; intro a hf
                refine bsplit (decide (q54.High < q54.Low)) (fun hb63 => ?_) (fun hb63 => ?_)
                · have hj61 := bif_t hj61 hb63
                  refine sNo hf rfl rfl rfl (congrArg (fun b => some (Value.bool b)) hb63) rfl rfl rfl ?_; clear hf; intro a hf
                  refine sNo hf rfl rfl rfl (congrArg (fun b => some (Value.bool b)) hb63) rfl rfl rfl ?_; clear hf; intro a hf
                  refine sNo hf rfl rfl rfl (congrArg (fun b => some (Value.bool b)) hb63) rfl rfl rfl ?_; clear hf; intro a hf
                  refine sY hf hs rfl rfl rfl (Y_pickT rfl (congrArg (fun b => some (Value.bool b)) hb63) rfl) ?_; clear hf; intro a hf
                  refine wpO_nil ?_
                  refine wpL_nil (then_normal ?_)
                  exact ⟨true, Option.some.inj hj61, (Fr.pick (Fr.pick (Fr.pick (Fr.pick (Fr.pick (Fr.pick hf.none hf rfl) hf rfl) hf rfl) hf rfl) hf rfl) hf rfl), hs.sel [] (by decide)⟩
                · have hj61 := bif_f hj61 hb63
                  refine sYg hf hs rfl rfl rfl (congrArg (fun b => some (Value.bool b)) hb63) rfl rfl rfl (Y_fieldAddr rfl rfl fo103_1) ?_; clear hf; intro a hf
                  refine sYg hf hs rfl rfl rfl (congrArg (fun b => some (Value.bool b)) hb63) rfl rfl rfl (Y_load_blk rfl rfl (i := 0) rfl rfl ag2) ?_; clear hf; intro a hf
                  refine sYg hf hs rfl rfl rfl (congrArg (fun b => some (Value.bool b)) hb63) rfl rfl rfl (Y_gtr rfl rfl rfl) ?_; clear hf; intro a hf
                  refine sY hf hs rfl rfl rfl (Y_pickF rfl (congrArg (fun b => some (Value.bool b)) hb63) rfl) ?_; clear hf; intro a hf
                  refine wpO_nil ?_
                  refine wpL_nil (then_normal ?_)
                  exact ⟨(decide (1000000 < q54.High)), Option.some.inj hj61, (Fr.pick (Fr.pick (Fr.pick (Fr.pick (Fr.pick (Fr.pick hf.none hf rfl) hf rfl) hf rfl) hf rfl) hf rfl) hf rfl), hs.sel [] (by decide)⟩
            · rintro a w ⟨b59, hr_, hf, hs⟩
              subst hr_
              try dsimp only at hm51
              refine wpL_cond hf rfl (fun hb64 => ?_) (fun hb64 => ?_)
              · have hm51 := bif_t hm51 hb64
                refine wpL_seq ?_
                refine wpL_region ?_
                refine sY hf hs rfl rfl rfl (Y_assign rfl rfl) ?_; clear hf; intro a hf
                refine wpO_nil ?_
                obtain rfl := Option.some.inj hm51
                try dsimp only at hm
                obtain rfl := Option.some.inj hm
                refine wpL_ret (Qb_ret (Ql_ret (Qb_ret (ret_tmp rfl hf rfl ?_))))
                exact ⟨_, rfl, rfl, hs⟩
              · have hm51 := bif_f hm51 hb64
                refine wpL_skip ?_
                refine wpL_nil (Qb_normal ?_)
                refine wpL_region ?_
                refine sY hf hs rfl rfl rfl (Y_add rfl rfl rfl) ?_; clear hf; intro a hf
                refine sY hf hs rfl rfl rfl (Y_move rfl rfl) ?_; clear hf; intro a hf
                refine wpO_nil ?_
                refine wpL_nil (Ql_normal ?_)
                exact ⟨(IntKind.i64.wrap (x36 + 1)), hm51, (Fr.pick (Fr.pick (Fr.pick (Fr.pick (Fr.pick hf.none hf rfl) hf rfl) hf rfl) hf rfl) hf rfl), hs⟩
          · have hm51 := bif_f hm51 hb53
            refine wpL_exit (Ql_exit (Qb_exit ?_))
            exact ⟨Option.some.inj hm51, (Fr.pick (Fr.pick hf.none hf rfl) hf rfl), hs⟩
      · rintro a w ⟨hr_, hf, hs⟩
        subst hr_
        try dsimp only at hm
        refine wpL_seq ?_
        refine wpL_region ?_
        refine sY hf hs rfl rfl rfl (Y_move rfl rfl) ?_; clear hf; intro a hf
        refine sY hf hs rfl rfl rfl (Y_lenH rfl rfl el53 rfl) ?_; clear hf; intro a hf
        refine sY hf hs rfl rfl rfl (Y_sub rfl rfl rfl) ?_; clear hf; intro a hf
        refine sAlloc hf hs rfl rfl rfl rfl ti2 ?_; clear hf hs; intro a w b65 hs hf
        have hs : St [] W w [.blk b65 2 [.int .i64 0]] := hs
        refine sStore (i := 0) (us := [.int .i64 (IntKind.i64.wrap ((p0_windows.length : Int) - 1))]) hf hs rfl rfl rfl rfl rfl rfl ti2 rfl rfl rfl (Nat.le_of_ble_eq_true rfl) rfl ?_; clear hs; intro w hs
        have hs : St [] W w [.blk b65 2 [.int .i64 (IntKind.i64.wrap ((p0_windows.length : Int) - 1))]] := hs
        refine wpO_nil ?_
        refine wpL_seq ?_
        refine wpL_region ?_
        refine sY hf hs rfl rfl rfl (Y_move rfl rfl) ?_; clear hf; intro a hf
        refine sY hf hs rfl rfl rfl (Y_makeFunc (us := []) (vs := [.pointer (some ⟨b65, 0, none⟩)]) rfl rfl rfl) ?_; clear hf; intro a hf
        obtain ⟨r66, hc67, hm⟩ := bind_some hm
        refine sCall hf rfl rfl rfl rfl (cap := []) rfl rfl en142 (slices_ContainsFunc_Bond_ok F p1_bonds A_p1_bonds_1 p1_bonds.length c_p1_bonds_1 rfl (fun x0 => impl_IsTask_c1 F x0 (IntKind.i64.wrap ((p0_windows.length : Int) - 1))) 143 ([.pointer (some ⟨b65, 0, none⟩)]) _ _ hc67 (h_p1_bonds_1.at hs) (fun x0 r w' hm_ hb => impl_IsTask_c1_ok F x0 b65 (IntKind.i64.wrap ((p0_windows.length : Int) - 1)) r w' hm_ ((hs.pb (i := 0) rfl).below hb (Nat.le_refl _))) en143) ?_; clear hf
        rintro _ w ⟨rfl, hs1⟩ a hf
        have hs : St [] W w [.blk b65 2 [.int .i64 (IntKind.i64.wrap ((p0_windows.length : Int) - 1))]] := hs.ext hs1.below
        clear hs1
        refine sY hf hs rfl rfl rfl (Y_not rfl rfl) ?_; clear hf; intro a hf
        refine sY hf hs rfl rfl rfl (Y_assign rfl rfl) ?_; clear hf; intro a hf
        refine wpO_nil ?_
        obtain rfl := Option.some.inj hm
        refine wpL_ret (ret_tmp rfl hf rfl ?_)
        exact ⟨_, rfl, rfl, hs.sel [] (by decide)⟩

set_option maxRecDepth 100000 in
theorem impl_matrixBy_ok (F : Nat) (p0_m : Int) (p1_n : Int) (m_p2_entry : Int → Int → Option Int) (f_p2_entry : FuncId) (k_p2_entry : List Value) (r : List (List Int)) (W : World) (hm : impl_matrixBy F p0_m p1_n m_p2_entry = some r) (h_p2_entry : ∀ (x0 : Int) (x1 : Int) (r : Int) (w : World), m_p2_entry x0 x1 = some r → Below W.heap.size W w → Calls Try.prog f_p2_entry (([.int .i64 x0, .int .i64 x1] : List Value) ++ k_p2_entry).toArray w fun e w' => ∃ v, e = .returned v ∧ v = .int .i64 r ∧ St [] w w' []) (e_p2_entry : En Try.prog f_p2_entry) :
    Calls Try.prog 168 [.int .i64 p0_m, .int .i64 p1_n, .func (.func f_p2_entry) #[] k_p2_entry.toArray].toArray W fun e w' => ∃ v, e = .returned v ∧ ∃ A641, ∃ n642, ∃ c643, ∃ vs645, v = .slice A641 n642 c643 ∧ n642 = r.length ∧ St [] W w' [.mat A641 n642 c643 36 2 vs645 r] := by
  unfold impl_matrixBy at hm
  refine Calls.enter (N := 43) Try.func168 rfl rfl rfl (fun a hf => ?_)
  have hs := St.start W
  obtain ⟨w, hw_⟩ : ∃ w, w = W := ⟨W, rfl⟩
  clear hw_ w
  refine wpL_seq ?_
  refine wpL_region ?_
  refine sY hf hs rfl rfl rfl (Y_assign rfl rfl) ?_; clear hf; intro a hf
  refine wpO_nil ?_
  refine wpL_seq ?_
  refine wpL_region ?_
  refine sY hf hs rfl rfl rfl (Y_move rfl rfl) ?_; clear hf; intro a hf
  obtain ⟨ms3, hk2, hm⟩ := bind_some hm
  refine sMakeM 2 hf hs rfl rfl rfl rfl rfl hk2 el34 ti36 rfl ?_; clear hf hs; intro a w A1 vs4 hs hf
  have hs : St [] W w [.mat A1 ms3.length ms3.length 36 2 vs4 ms3] := hs
  refine sY hf hs rfl rfl rfl (Y_assign rfl rfl) ?_; clear hf; intro a hf
  refine wpO_nil ?_
  refine wpL_seq ?_
  refine wpL_seq ?_
  refine wpL_region ?_
  refine sY hf hs rfl rfl rfl (Y_move rfl rfl) ?_; clear hf; intro a hf
  refine sY hf hs rfl rfl rfl (Y_lenH rfl rfl el34 rfl) ?_; clear hf; intro a hf
  refine sY hf hs rfl rfl rfl (Y_move rfl rfl) ?_; clear hf; intro a hf
  refine wpO_nil ?_
  obtain ⟨r484, hl485, hm⟩ := bind_some hm
  refine wpL_block (fun a w => ∃ ms478 : List (List Int), ∃ A479, ∃ n480, ∃ c481, ∃ vs483, ms478 = r484 ∧ n480 = ms478.length ∧ Fr a 43 [(7, .slice A479 n480 c481)] ∧ St [] W w [.mat A479 n480 c481 36 2 vs483 ms478]) ?_ ?_
  · refine wpL_loop (fun n a w => ∃ ms318 : List (List Int), ∃ x324 : Int, ∃ A319, ∃ n320, ∃ c321, ∃ vs323, impl_matrixBy_L4 F p1_n m_p2_entry ms3 n ms318 x324 = some r484 ∧ n320 = ms318.length ∧ Fr a 43 [(1, .int .i64 p1_n), (2, .func (.func f_p2_entry) #[] k_p2_entry.toArray), (7, .slice A319 n320 c321), (13, .int .i64 (ms3.length : Int)), (14, .int .i64 x324)] ∧ St [] W w [.mat A319 n320 c321 36 2 vs323 ms318]) F ?_ ?_ ?_
    · exact ⟨ms3, 0, A1, ms3.length, ms3.length, vs4, hl485, rfl, (Fr.pick (Fr.pick (Fr.pick (Fr.pick (Fr.pick hf.none hf rfl) hf rfl) hf rfl) hf rfl) hf rfl), hs⟩
    · rintro a w ⟨ms318, x324, A319, n320, c321, vs323, h0_, -, -, -⟩; simp [impl_matrixBy_L4] at h0_
    · rintro n487 a w ⟨ms318, x324, A319, n320, c321, vs323, hm486, hn322, hf, hs⟩
      rw [impl_matrixBy_L4] at hm486
      refine wpL_seq ?_
      refine wpL_region ?_
      refine sY hf hs rfl rfl rfl (Y_lss rfl rfl rfl) ?_; clear hf; intro a hf
      refine wpO_nil ?_
      refine wpL_seq ?_
      refine wpL_cond hf rfl (fun hb488 => ?_) (fun hb488 => ?_)
      · have hm486 := bif_t hm486 hb488
        refine wpL_skip ?_
        refine wpL_seq ?_
        refine wpL_block0 ?_
        refine wpL_seq ?_
        refine wpL_region ?_
        refine sY hf hs rfl rfl rfl (Y_move rfl rfl) ?_; clear hf; intro a hf
        refine sY hf hs rfl rfl rfl (Y_assign rfl rfl) ?_; clear hf; intro a hf
        refine wpO_nil ?_
        refine wpL_seq ?_
        refine wpL_region ?_
        refine sY hf hs rfl rfl rfl (Y_move rfl rfl) ?_; clear hf; intro a hf
        refine sY hf hs rfl rfl rfl (Y_move rfl rfl) ?_; clear hf; intro a hf
        refine sY hf hs rfl rfl rfl (Y_move rfl rfl) ?_; clear hf; intro a hf
        obtain ⟨xs491, hk490, hm486⟩ := bind_some hm486
        refine sMakeL (enc := ints) hf hs rfl rfl rfl rfl rfl hk490 el36 ti2 rfl ints_made ?_; clear hf hs; intro a w A489 hs hf
        have hs : St [] W w [.mat A319 n320 c321 36 2 vs323 ms318, .row A489 xs491.length xs491.length 2 1 (ints xs491)] := hs
        obtain ⟨q492, hi493, hm486⟩ := bind_some hm486
        obtain ⟨hi493a, hi493b, hi493q⟩ := idx_some hi493
        obtain ⟨A494, c495, hv496⟩ := hs.matRow (i := 0) rfl hi493q
        refine sY hf hs rfl rfl rfl (Y_index rfl rfl rfl el34 ti36 (Rd.isAt (hs.rdV (i := 0) rfl) hv496) hi493a (ltn hn322 hi493b)) ?_; clear hf; intro a hf
        obtain ⟨ms497, hu498, hm486⟩ := bind_some hm486
        refine sStoreRowM (i := 0) (j := 1) (k := x324) hf hs rfl rfl rfl rfl rfl rfl rfl (by decide) rfl hu498 ti36 ?_; clear hs; intro w vs499 hs
        have hs : St [] W w [.mat A319 n320 c321 36 2 vs499 ms497] := hs
        refine wpO_nil ?_
        refine wpL_seq ?_
        refine wpL_region ?_
        refine sY hf hs rfl rfl rfl (Y_move rfl rfl) ?_; clear hf; intro a hf
        refine sY hf hs rfl rfl rfl (Y_move rfl rfl) ?_; clear hf; intro a hf
        obtain ⟨q500, hi501, hm486⟩ := bind_some hm486
        obtain ⟨hi501a, hi501b, hi501q⟩ := idx_some hi501
        obtain ⟨A502, c503, hv504⟩ := hs.matRow (i := 0) rfl hi501q
        refine sY hf hs rfl rfl rfl (Y_index rfl rfl rfl el34 ti36 (Rd.isAt (hs.rdV (i := 0) rfl) hv504) hi501a (ltn ((hn322).trans (upd_len hu498).symm) hi501b)) ?_; clear hf; intro a hf
        refine sY hf hs rfl rfl rfl (Y_load_rd rfl rfl (fun w hs => hs.rdV (i := 0) rfl) (at1 hv504) ag36) ?_; clear hf; intro a hf
        refine sY hf hs rfl rfl rfl (Y_lenH rfl rfl el36 rfl) ?_; clear hf; intro a hf
        refine sY hf hs rfl rfl rfl (Y_move rfl rfl) ?_; clear hf; intro a hf
        refine wpO_nil ?_
        obtain ⟨r606, hl607, hm486⟩ := bind_some hm486
        refine wpL_block (fun a w => ∃ ms604 : List (List Int), ms604 = r606 ∧ n320 = ms604.length ∧ Fr a 43 [(1, .int .i64 p1_n), (2, .func (.func f_p2_entry) #[] k_p2_entry.toArray), (7, .slice A319 n320 c321), (13, .int .i64 (ms3.length : Int)), (14, .int .i64 x324)] ∧ St [] W w [.mat A319 n320 c321 36 2 vs499 ms604]) ?_ ?_
        · refine wpL_loop (fun n a w => ∃ ms570 : List (List Int), ∃ x572 : Int, impl_matrixBy_L5 F m_p2_entry x324 q500 n ms570 x572 = some r606 ∧ n320 = ms570.length ∧ Fr a 43 [(1, .int .i64 p1_n), (2, .func (.func f_p2_entry) #[] k_p2_entry.toArray), (7, .slice A319 n320 c321), (8, .int .i64 x324), (13, .int .i64 (ms3.length : Int)), (14, .int .i64 x324), (26, .int .i64 (q500.length : Int)), (27, .int .i64 x572)] ∧ St [] W w [.mat A319 n320 c321 36 2 vs499 ms570]) F ?_ ?_ ?_
          · exact ⟨ms497, 0, hl607, ((hn322).trans (upd_len hu498).symm), (Fr.pick (Fr.pick (Fr.pick (Fr.pick (Fr.pick (Fr.pick (Fr.pick (Fr.pick hf.none hf rfl) hf rfl) hf rfl) hf rfl) hf rfl) hf rfl) hf rfl) hf rfl), hs⟩
          · rintro a w ⟨ms570, x572, h0_, -, -, -⟩; simp [impl_matrixBy_L5] at h0_
          · rintro n609 a w ⟨ms570, x572, hm608, hn571, hf, hs⟩
            rw [impl_matrixBy_L5] at hm608
            refine wpL_seq ?_
            refine wpL_region ?_
            refine sY hf hs rfl rfl rfl (Y_lss rfl rfl rfl) ?_; clear hf; intro a hf
            refine wpO_nil ?_
            refine wpL_seq ?_
            refine wpL_cond hf rfl (fun hb610 => ?_) (fun hb610 => ?_)
            · have hm608 := bif_t hm608 hb610
              refine wpL_skip ?_
              refine wpL_seq ?_
              refine wpL_block0 ?_
              refine wpL_seq ?_
              refine wpL_region ?_
              refine sY hf hs rfl rfl rfl (Y_move rfl rfl) ?_; clear hf; intro a hf
              refine sY hf hs rfl rfl rfl (Y_assign rfl rfl) ?_; clear hf; intro a hf
              refine wpO_nil ?_
              refine wpL_drawG [.mat A319 n320 c321 36 2 vs499 ms570] 10 (by kernel_rfl) hs ?_; clear hs; intro w hs
              have hs0 : St [] W w [.mat A319 n320 c321 36 2 vs499 ms570] := hs
              refine gY (i := 0) [] rfl (by kernel_rfl) (by kernel_rfl) hf hs0 rfl rfl rfl (Y_move rfl rfl) ?_; clear hf; intro a hf
              refine gY (i := 1) [] rfl (by kernel_rfl) (by kernel_rfl) hf hs0 rfl rfl rfl (Y_move rfl rfl) ?_; clear hf; intro a hf
              obtain ⟨q626, hi627, hm608⟩ := bind_some hm608
              obtain ⟨hi627a, hi627b, hi627q⟩ := idx_some hi627
              obtain ⟨A628, c629, hv630⟩ := hs0.matRow (i := 0) rfl hi627q
              refine gY (i := 2) [] rfl (by kernel_rfl) (by kernel_rfl) hf hs0 rfl rfl rfl (Y_index rfl rfl rfl el34 ti36 (Rd.isAt (hs0.rdV (i := 0) rfl) hv630) hi627a (ltn hn571 hi627b)) ?_; clear hf; intro a hf
              refine gY (i := 3) [] rfl (by kernel_rfl) (by kernel_rfl) hf hs0 rfl rfl rfl (Y_load_rd rfl rfl (fun w hs => hs.rdV (i := 0) rfl) (at1 hv630) ag36) ?_; clear hf; intro a hf
              refine gY (i := 4) [] rfl (by kernel_rfl) (by kernel_rfl) hf hs0 rfl rfl rfl (Y_move rfl rfl) ?_; clear hf; intro a hf
              refine gY (i := 5) [] rfl (by kernel_rfl) (by kernel_rfl) hf hs0 rfl rfl rfl (Y_move rfl rfl) ?_; clear hf; intro a hf
              refine gY (i := 6) [] rfl (by kernel_rfl) (by kernel_rfl) hf hs0 rfl rfl rfl (Y_move rfl rfl) ?_; clear hf; intro a hf
              refine gY (i := 7) [] rfl (by kernel_rfl) (by kernel_rfl) hf hs0 rfl rfl rfl (Y_move rfl rfl) ?_; clear hf; intro a hf
              refine gRun (i := 8) rfl (by kernel_rfl) ?_
              obtain ⟨r631, hc632, hm608⟩ := bind_some hm608
              refine sCall hf rfl rfl rfl rfl (cap := k_p2_entry) rfl rfl e_p2_entry (h_p2_entry x324 x572 _ _ hc632 hs.below) ?_; clear hf; rintro _ w ⟨rfl, hs1⟩ a hf; have hs := hs.ext hs1.below; clear hs1
              have hs0 : St [] W w [.mat A319 n320 c321 36 2 vs499 ms570] := hs
              refine wpO_nil ⟨Or.inr hs0, ?_⟩
              obtain ⟨q633, hi634, hm608⟩ := bind_some hm608
              obtain ⟨hi634a, hi634b, hi634q⟩ := idx_some hi634
              refine gY (i := 9) [] rfl (by kernel_rfl) (by kernel_rfl) hf hs0 rfl rfl rfl (Y_index rfl rfl rfl el36 ti2 (Rd.isAt (hs0.rdRow (i := 0) rfl ⟨hi627q, hv630⟩) (at1 (ints_at hi634q))) hi634a hi634b) ?_; clear hf; intro a hf
              refine gRun (i := 10) rfl (by kernel_rfl) ?_
              obtain ⟨xs635, hu637, hm608⟩ := bind_some hm608
              obtain ⟨ms636, hu638, hm608⟩ := bind_some hm608
              refine sStoreM (i := 0) (k := x324) hf hs rfl rfl rfl rfl rfl rfl hi627q hv630 rfl hu637 hu638 ti2 ?_; clear hs; intro w hs
              obtain ⟨hq639, hv640⟩ := rowUpd hu637 hu638 hv630
              have hs : St [] W w [.mat A319 n320 c321 36 2 vs499 ms636] := hs
              refine wpO_nil ⟨Or.inl rfl, ?_⟩
              refine gDone (by kernel_rfl) ?_
              clear hs0
              refine wpL_nil (Qb_normal ?_)
              refine wpL_region ?_
              refine sY hf hs rfl rfl rfl (Y_add rfl rfl rfl) ?_; clear hf; intro a hf
              refine sY hf hs rfl rfl rfl (Y_move rfl rfl) ?_; clear hf; intro a hf
              refine wpO_nil ?_
              refine wpL_nil (Ql_normal ?_)
              exact ⟨ms636, (IntKind.i64.wrap (x572 + 1)), hm608, ((hn571).trans (upd_len hu638).symm), (Fr.pick (Fr.pick (Fr.pick (Fr.pick (Fr.pick (Fr.pick (Fr.pick (Fr.pick hf.none hf rfl) hf rfl) hf rfl) hf rfl) hf rfl) hf rfl) hf rfl) hf rfl), hs⟩
            · have hm608 := bif_f hm608 hb610
              refine wpL_exit (Ql_exit (Qb_exit ?_))
              exact ⟨ms570, Option.some.inj hm608, hn571, (Fr.pick (Fr.pick (Fr.pick (Fr.pick (Fr.pick hf.none hf rfl) hf rfl) hf rfl) hf rfl) hf rfl), hs⟩
        · rintro a w ⟨ms604, hr_, hn605, hf, hs⟩
          subst hr_
          try dsimp only at hm486
          refine wpL_nil (Qb_normal ?_)
          refine wpL_region ?_
          refine sY hf hs rfl rfl rfl (Y_add rfl rfl rfl) ?_; clear hf; intro a hf
          refine sY hf hs rfl rfl rfl (Y_move rfl rfl) ?_; clear hf; intro a hf
          refine wpO_nil ?_
          refine wpL_nil (Ql_normal ?_)
          exact ⟨ms604, (IntKind.i64.wrap (x324 + 1)), A319, n320, c321, vs499, hm486, hn605, (Fr.pick (Fr.pick (Fr.pick (Fr.pick (Fr.pick hf.none hf rfl) hf rfl) hf rfl) hf rfl) hf rfl), hs⟩
      · have hm486 := bif_f hm486 hb488
        refine wpL_exit (Ql_exit (Qb_exit ?_))
        exact ⟨ms318, A319, n320, c321, vs323, Option.some.inj hm486, hn322, (Fr.pick hf.none hf rfl), hs⟩
  · rintro a w ⟨ms478, A479, n480, c481, vs483, hr_, hn482, hf, hs⟩
    subst hr_
    try dsimp only at hm
    refine wpL_seq ?_
    refine wpL_region ?_
    refine sY hf hs rfl rfl rfl (Y_move rfl rfl) ?_; clear hf; intro a hf
    refine sY hf hs rfl rfl rfl (Y_assign rfl rfl) ?_; clear hf; intro a hf
    refine wpO_nil ?_
    obtain rfl := Option.some.inj hm
    refine wpL_ret (ret_tmp rfl hf rfl ?_)
    exact ⟨_, rfl, A479, n480, c481, vs483, rfl, hn482, hs⟩

set_option maxRecDepth 100000 in
theorem impl_bottomMatrix_c1_ok (F : Nat) (p0 : Int) (p1 : Int) (r : Int) (W : World) (hm : impl_bottomMatrix_c1 F p0 p1 = some r) :
    Calls Try.prog 171 [.int .i64 p0, .int .i64 p1].toArray W fun e w' => ∃ v, e = .returned v ∧ v = .int .i64 r ∧ St [] W w' [] := by
  unfold impl_bottomMatrix_c1 at hm
  refine Calls.enter (N := 5) Try.func171 rfl rfl rfl (fun a hf => ?_)
  have hs := St.start W
  obtain ⟨w, hw_⟩ : ∃ w, w = W := ⟨W, rfl⟩
  clear hw_ w
  refine wpL_seq ?_
  refine wpL_region ?_
  refine sY hf hs rfl rfl rfl (Y_assign rfl rfl) ?_; clear hf; intro a hf
  refine wpO_nil ?_
  refine wpL_seq ?_
  refine wpL_region ?_
  refine sY hf hs rfl rfl rfl (Y_assign rfl rfl) ?_; clear hf; intro a hf
  refine wpO_nil ?_
  obtain rfl := Option.some.inj hm
  refine wpL_ret (ret_tmp rfl hf rfl ?_)
  exact ⟨_, rfl, rfl, hs⟩

set_option maxRecDepth 100000 in
theorem impl_bottomMatrix_ok (F : Nat) (p0_m : Int) (p1_n : Int) (r : List (List Int)) (W : World) (hm : impl_bottomMatrix F p0_m p1_n = some r) :
    Calls Try.prog 138 [.int .i64 p0_m, .int .i64 p1_n].toArray W fun e w' => ∃ v, e = .returned v ∧ ∃ A8, ∃ n9, ∃ c10, ∃ vs12, v = .slice A8 n9 c10 ∧ n9 = r.length ∧ St [] W w' [.mat A8 n9 c10 36 2 vs12 r] := by
  unfold impl_bottomMatrix at hm
  refine Calls.enter (N := 8) Try.func138 rfl rfl rfl (fun a hf => ?_)
  have hs := St.start W
  obtain ⟨w, hw_⟩ : ∃ w, w = W := ⟨W, rfl⟩
  clear hw_ w
  refine wpL_seq ?_
  refine wpL_region ?_
  refine sY hf hs rfl rfl rfl (Y_assign rfl rfl) ?_; clear hf; intro a hf
  refine wpO_nil ?_
  refine wpL_seq ?_
  refine wpL_region ?_
  refine sY hf hs rfl rfl rfl (Y_move rfl rfl) ?_; clear hf; intro a hf
  refine sY hf hs rfl rfl rfl (Y_move rfl rfl) ?_; clear hf; intro a hf
  obtain ⟨r1, hc2, hm⟩ := bind_some hm
  refine sCall hf rfl rfl rfl rfl (cap := []) rfl rfl en168 (impl_matrixBy_ok F p0_m p1_n (fun x0 x1 => impl_bottomMatrix_c1 F x0 x1) 171 [] _ _ hc2 (fun x0 x1 r w' hm_ hb => impl_bottomMatrix_c1_ok F x0 x1 r w' hm_ ) en171) ?_; clear hf
  rintro _ w ⟨A3, n4, c5, vs7, rfl, hn6, hs1⟩ a hf
  have hs : St [] W w [.mat A3 n4 c5 36 2 vs7 r1] := hs.join hs1
  clear hs1
  refine sY hf hs rfl rfl rfl (Y_assign rfl rfl) ?_; clear hf; intro a hf
  refine wpO_nil ?_
  obtain rfl := Option.some.inj hm
  refine wpL_ret (ret_tmp rfl hf rfl ?_)
  exact ⟨_, rfl, A3, n4, c5, vs7, rfl, hn6, hs⟩

set_option maxRecDepth 100000 in
theorem impl_bondMatrix_ok (F : Nat) (p0_windows : List GWindow) (A_p0_windows_1 : Option Addr) (n_p0_windows_1 c_p0_windows_1 : Nat) (hn_p0_windows_1 : n_p0_windows_1 = p0_windows.length) (p1_bonds : List GBond) (A_p1_bonds_1 : Option Addr) (n_p1_bonds_1 c_p1_bonds_1 : Nat) (hn_p1_bonds_1 : n_p1_bonds_1 = p1_bonds.length) (r : List (List Int)) (W : World) (hm : impl_bondMatrix F p0_windows p1_bonds = some r) (_h_p0_windows_1 : Rd W A_p0_windows_1 ((recs GWindow.cells) p0_windows)) (h_p1_bonds_1 : Rd W A_p1_bonds_1 ((recs GBond.cells) p1_bonds)) :
    Calls Try.prog 98 [.slice A_p0_windows_1 n_p0_windows_1 c_p0_windows_1, .slice A_p1_bonds_1 n_p1_bonds_1 c_p1_bonds_1].toArray W fun e w' => ∃ v, e = .returned v ∧ ∃ A196, ∃ n197, ∃ c198, ∃ vs200, v = .slice A196 n197 c198 ∧ n197 = r.length ∧ St [] W w' [.mat A196 n197 c198 36 2 vs200 r] := by
  subst hn_p0_windows_1
  subst hn_p1_bonds_1
  unfold impl_bondMatrix at hm
  refine Calls.enter (N := 41) Try.func98 rfl rfl rfl (fun a hf => ?_)
  have hs := St.start W
  obtain ⟨w, hw_⟩ : ∃ w, w = W := ⟨W, rfl⟩
  clear hw_ w
  refine wpL_seq ?_
  refine wpL_region ?_
  refine sY hf hs rfl rfl rfl (Y_assign rfl rfl) ?_; clear hf; intro a hf
  refine wpO_nil ?_
  refine wpL_seq ?_
  refine wpL_region ?_
  refine sY hf hs rfl rfl rfl (Y_move rfl rfl) ?_; clear hf; intro a hf
  refine sY hf hs rfl rfl rfl (Y_lenH rfl rfl el53 rfl) ?_; clear hf; intro a hf
  refine sY hf hs rfl rfl rfl (Y_move rfl rfl) ?_; clear hf; intro a hf
  refine sY hf hs rfl rfl rfl (Y_lenH rfl rfl el53 rfl) ?_; clear hf; intro a hf
  obtain ⟨r1, hc2, hm⟩ := bind_some hm
  refine sCall hf rfl rfl rfl rfl (cap := []) rfl rfl en138 (impl_bottomMatrix_ok F (p0_windows.length : Int) (p0_windows.length : Int) _ _ hc2) ?_; clear hf
  rintro _ w ⟨A3, n4, c5, vs7, rfl, hn6, hs1⟩ a hf
  have hs : St [] W w [.mat A3 n4 c5 36 2 vs7 r1] := hs.join hs1
  clear hs1
  refine sY hf hs rfl rfl rfl (Y_assign rfl rfl) ?_; clear hf; intro a hf
  refine wpO_nil ?_
  refine wpL_seq ?_
  refine wpL_seq ?_
  refine wpL_region ?_
  refine sY hf hs rfl rfl rfl (Y_move rfl rfl) ?_; clear hf; intro a hf
  refine sY hf hs rfl rfl rfl (Y_lenH rfl rfl el55 rfl) ?_; clear hf; intro a hf
  refine sY hf hs rfl rfl rfl (Y_move rfl rfl) ?_; clear hf; intro a hf
  refine wpO_nil ?_
  obtain ⟨r148, hl149, hm⟩ := bind_some hm
  refine wpL_block (fun a w => ∃ ms146 : List (List Int), ms146 = r148 ∧ n4 = ms146.length ∧ Fr a 41 [(5, .slice A3 n4 c5)] ∧ St [] W w [.mat A3 n4 c5 36 2 vs7 ms146]) ?_ ?_
  · refine wpL_loop (fun n a w => ∃ ms99 : List (List Int), ∃ x101 : Int, impl_bondMatrix_L1 F p1_bonds n ms99 x101 = some r148 ∧ n4 = ms99.length ∧ Fr a 41 [(5, .slice A3 n4 c5), (13, .slice A_p1_bonds_1 p1_bonds.length c_p1_bonds_1), (14, .int .i64 (p1_bonds.length : Int)), (15, .int .i64 x101)] ∧ St [] W w [.mat A3 n4 c5 36 2 vs7 ms99]) F ?_ ?_ ?_
    · exact ⟨r1, 0, hl149, hn6, (Fr.pick (Fr.pick (Fr.pick (Fr.pick hf.none hf rfl) hf rfl) hf rfl) hf rfl), hs⟩
    · rintro a w ⟨ms99, x101, h0_, -, -, -⟩; simp [impl_bondMatrix_L1] at h0_
    · rintro n151 a w ⟨ms99, x101, hm150, hn100, hf, hs⟩
      rw [impl_bondMatrix_L1] at hm150
      refine wpL_seq ?_
      refine wpL_region ?_
      refine sY hf hs rfl rfl rfl (Y_lss rfl rfl rfl) ?_; clear hf; intro a hf
      refine wpO_nil ?_
      refine wpL_seq ?_
      refine wpL_cond hf rfl (fun hb152 => ?_) (fun hb152 => ?_)
      · have hm150 := bif_t hm150 hb152
        refine wpL_skip ?_
        refine wpL_seq ?_
        refine wpL_block0 ?_
        refine wpL_seq ?_
        refine wpL_region ?_
        obtain ⟨q153, hi154, hm150⟩ := bind_some hm150
        obtain ⟨hi154a, hi154b, hi154q⟩ := idx_some hi154
        refine sY hf hs rfl rfl rfl (Y_index rfl rfl rfl el55 ti107 (Rd.isAt (h_p1_bonds_1.at hs) (recs_at (s := 3) GBond.len hi154q (j := 0) rfl)) hi154a hi154b) ?_; clear hf; intro a hf
        refine sY hf hs rfl rfl rfl (Y_load_rdS rfl rfl (us := [.int .i64 q153.From, .int .i64 q153.To, .int .i64 q153.Least]) (fun w hs => h_p1_bonds_1.at hs) (fun j u hj => recs_at (s := 3) GBond.len hi154q hj) (Nat.succ_pos _) ag107 ti107 rfl) ?_; clear hf; intro a hf
        refine sAlloc hf hs rfl rfl rfl rfl ti107 ?_; clear hf hs; intro a w b155 hs hf
        have hs : St [] W w [.mat A3 n4 c5 36 2 vs7 ms99, .blk b155 107 [.int .i64 0, .int .i64 0, .int .i64 0]] := hs
        refine sStore (i := 1) (us := [.int .i64 q153.From, .int .i64 q153.To, .int .i64 q153.Least]) hf hs rfl rfl rfl rfl rfl rfl ti107 rfl rfl rfl (Nat.le_of_ble_eq_true rfl) rfl ?_; clear hs; intro w hs
        have hs : St [] W w [.mat A3 n4 c5 36 2 vs7 ms99, .blk b155 107 [.int .i64 q153.From, .int .i64 q153.To, .int .i64 q153.Least]] := hs
        refine wpO_nil ?_
        refine wpL_drawG [.mat A3 n4 c5 36 2 vs7 ms99, .blk b155 107 [.int .i64 q153.From, .int .i64 q153.To, .int .i64 q153.Least]] 20 (by kernel_rfl) hs ?_; clear hs; intro w hs
        have hs0 : St [] W w [.mat A3 n4 c5 36 2 vs7 ms99, .blk b155 107 [.int .i64 q153.From, .int .i64 q153.To, .int .i64 q153.Least]] := hs
        refine gY (i := 0) [] rfl (by kernel_rfl) (by kernel_rfl) hf hs0 rfl rfl rfl (Y_move rfl rfl) ?_; clear hf; intro a hf
        refine gY (i := 1) [] rfl (by kernel_rfl) (by kernel_rfl) hf hs0 rfl rfl rfl (Y_fieldAddr rfl rfl fo107_1) ?_; clear hf; intro a hf
        refine gY (i := 2) [] rfl (by kernel_rfl) (by kernel_rfl) hf hs0 rfl rfl rfl (Y_load_blk rfl rfl (i := 1) rfl rfl ag2) ?_; clear hf; intro a hf
        obtain ⟨q176, hi177, hm150⟩ := bind_some hm150
        obtain ⟨hi177a, hi177b, hi177q⟩ := idx_some hi177
        obtain ⟨A178, c179, hv180⟩ := hs0.matRow (i := 0) rfl hi177q
        refine gY (i := 3) [] rfl (by kernel_rfl) (by kernel_rfl) hf hs0 rfl rfl rfl (Y_index rfl rfl rfl el34 ti36 (Rd.isAt (hs0.rdV (i := 0) rfl) hv180) hi177a (ltn hn100 hi177b)) ?_; clear hf; intro a hf
        refine gY (i := 4) [] rfl (by kernel_rfl) (by kernel_rfl) hf hs0 rfl rfl rfl (Y_load_rd rfl rfl (fun w hs => hs.rdV (i := 0) rfl) (at1 hv180) ag36) ?_; clear hf; intro a hf
        refine gY (i := 5) [] rfl (by kernel_rfl) (by kernel_rfl) hf hs0 rfl rfl rfl (Y_fieldAddr rfl rfl fo107_0) ?_; clear hf; intro a hf
        refine gY (i := 6) [] rfl (by kernel_rfl) (by kernel_rfl) hf hs0 rfl rfl rfl (Y_load_blk rfl rfl (i := 1) rfl rfl ag2) ?_; clear hf; intro a hf
        refine gY (i := 7) [] rfl (by kernel_rfl) (by kernel_rfl) hf hs0 rfl rfl rfl (Y_move rfl rfl) ?_; clear hf; intro a hf
        refine gY (i := 8) [] rfl (by kernel_rfl) (by kernel_rfl) hf hs0 rfl rfl rfl (Y_fieldAddr rfl rfl fo107_1) ?_; clear hf; intro a hf
        refine gY (i := 9) [] rfl (by kernel_rfl) (by kernel_rfl) hf hs0 rfl rfl rfl (Y_load_blk rfl rfl (i := 1) rfl rfl ag2) ?_; clear hf; intro a hf
        obtain ⟨q181, hi182, hm150⟩ := bind_some hm150
        obtain ⟨hi182a, hi182b, hi182q⟩ := idx_some hi182
        obtain ⟨A183, c184, hv185⟩ := hs0.matRow (i := 0) rfl hi182q
        refine gY (i := 10) [] rfl (by kernel_rfl) (by kernel_rfl) hf hs0 rfl rfl rfl (Y_index rfl rfl rfl el34 ti36 (Rd.isAt (hs0.rdV (i := 0) rfl) hv185) hi182a (ltn hn100 hi182b)) ?_; clear hf; intro a hf
        refine gY (i := 11) [] rfl (by kernel_rfl) (by kernel_rfl) hf hs0 rfl rfl rfl (Y_load_rd rfl rfl (fun w hs => hs.rdV (i := 0) rfl) (at1 hv185) ag36) ?_; clear hf; intro a hf
        refine gY (i := 12) [] rfl (by kernel_rfl) (by kernel_rfl) hf hs0 rfl rfl rfl (Y_fieldAddr rfl rfl fo107_0) ?_; clear hf; intro a hf
        refine gY (i := 13) [] rfl (by kernel_rfl) (by kernel_rfl) hf hs0 rfl rfl rfl (Y_load_blk rfl rfl (i := 1) rfl rfl ag2) ?_; clear hf; intro a hf
        obtain ⟨q186, hi187, hm150⟩ := bind_some hm150
        obtain ⟨hi187a, hi187b, hi187q⟩ := idx_some hi187
        refine gY (i := 14) [] rfl (by kernel_rfl) (by kernel_rfl) hf hs0 rfl rfl rfl (Y_index rfl rfl rfl el36 ti2 (Rd.isAt (hs0.rdRow (i := 0) rfl ⟨hi182q, hv185⟩) (at1 (ints_at hi187q))) hi187a hi187b) ?_; clear hf; intro a hf
        refine gY (i := 15) [] rfl (by kernel_rfl) (by kernel_rfl) hf hs0 rfl rfl rfl (Y_load_rd rfl rfl (fun w hs => hs.rdRow (i := 0) rfl ⟨hi182q, hv185⟩) (at1 (ints_at hi187q)) ag2) ?_; clear hf; intro a hf
        refine gY (i := 16) [] rfl (by kernel_rfl) (by kernel_rfl) hf hs0 rfl rfl rfl (Y_fieldAddr rfl rfl fo107_2) ?_; clear hf; intro a hf
        refine gY (i := 17) [] rfl (by kernel_rfl) (by kernel_rfl) hf hs0 rfl rfl rfl (Y_load_blk rfl rfl (i := 1) rfl rfl ag2) ?_; clear hf; intro a hf
        refine gY (i := 18) [] rfl (by kernel_rfl) (by kernel_rfl) hf hs0 rfl rfl rfl (Y_max rfl rfl rfl) ?_; clear hf; intro a hf
        obtain ⟨q188, hi189, hm150⟩ := bind_some hm150
        obtain ⟨hi189a, hi189b, hi189q⟩ := idx_some hi189
        refine gY (i := 19) [] rfl (by kernel_rfl) (by kernel_rfl) hf hs0 rfl rfl rfl (Y_index rfl rfl rfl el36 ti2 (Rd.isAt (hs0.rdRow (i := 0) rfl ⟨hi177q, hv180⟩) (at1 (ints_at hi189q))) hi189a hi189b) ?_; clear hf; intro a hf
        refine gRun (i := 20) rfl (by kernel_rfl) ?_
        obtain ⟨xs190, hu192, hm150⟩ := bind_some hm150
        obtain ⟨ms191, hu193, hm150⟩ := bind_some hm150
        refine sStoreM (i := 0) (k := q153.To) hf hs rfl rfl rfl rfl rfl rfl hi177q hv180 rfl hu192 hu193 ti2 ?_; clear hs; intro w hs
        obtain ⟨hq194, hv195⟩ := rowUpd hu192 hu193 hv180
        have hs : St [] W w [.mat A3 n4 c5 36 2 vs7 ms191, .blk b155 107 [.int .i64 q153.From, .int .i64 q153.To, .int .i64 q153.Least]] := hs
        refine wpO_nil ⟨Or.inl rfl, ?_⟩
        refine gDone (by kernel_rfl) ?_
        clear hs0
        refine wpL_nil (Qb_normal ?_)
        refine wpL_region ?_
        refine sY hf hs rfl rfl rfl (Y_add rfl rfl rfl) ?_; clear hf; intro a hf
        refine sY hf hs rfl rfl rfl (Y_move rfl rfl) ?_; clear hf; intro a hf
        refine wpO_nil ?_
        refine wpL_nil (Ql_normal ?_)
        exact ⟨ms191, (IntKind.i64.wrap (x101 + 1)), hm150, ((hn100).trans (upd_len hu193).symm), (Fr.pick (Fr.pick (Fr.pick (Fr.pick hf.none hf rfl) hf rfl) hf rfl) hf rfl), hs.sel [0] (by decide)⟩
      · have hm150 := bif_f hm150 hb152
        refine wpL_exit (Ql_exit (Qb_exit ?_))
        exact ⟨ms99, Option.some.inj hm150, hn100, (Fr.pick hf.none hf rfl), hs⟩
  · rintro a w ⟨ms146, hr_, hn147, hf, hs⟩
    subst hr_
    try dsimp only at hm
    refine wpL_seq ?_
    refine wpL_region ?_
    refine sY hf hs rfl rfl rfl (Y_move rfl rfl) ?_; clear hf; intro a hf
    refine sY hf hs rfl rfl rfl (Y_assign rfl rfl) ?_; clear hf; intro a hf
    refine wpO_nil ?_
    obtain rfl := Option.some.inj hm
    refine wpL_ret (ret_tmp rfl hf rfl ?_)
    exact ⟨_, rfl, A3, n4, c5, vs7, rfl, hn147, hs⟩

set_option maxRecDepth 100000 in
theorem impl_unitMatrix_c1_ok (F : Nat) (p0_i : Int) (p1_j : Int) (r : Int) (W : World) (hm : impl_unitMatrix_c1 F p0_i p1_j = some r) :
    Calls Try.prog 170 [.int .i64 p0_i, .int .i64 p1_j].toArray W fun e w' => ∃ v, e = .returned v ∧ v = .int .i64 r ∧ St [] W w' [] := by
  unfold impl_unitMatrix_c1 at hm
  refine Calls.enter (N := 8) Try.func170 rfl rfl rfl (fun a hf => ?_)
  have hs := St.start W
  obtain ⟨w, hw_⟩ : ∃ w, w = W := ⟨W, rfl⟩
  clear hw_ w
  refine wpL_seq ?_
  refine wpL_region ?_
  refine sY hf hs rfl rfl rfl (Y_assign rfl rfl) ?_; clear hf; intro a hf
  refine wpO_nil ?_
  refine wpL_seq ?_
  refine wpL_seq ?_
  refine wpL_region ?_
  refine sY hf hs rfl rfl rfl (Y_move rfl rfl) ?_; clear hf; intro a hf
  refine sY hf hs rfl rfl rfl (Y_move rfl rfl) ?_; clear hf; intro a hf
  refine sY hf hs rfl rfl rfl (Y_eql rfl rfl rfl) ?_; clear hf; intro a hf
  refine wpO_nil ?_
  refine wpL_cond hf rfl (fun hb1 => ?_) (fun hb1 => ?_)
  · have hm := bif_t hm hb1
    refine wpL_seq ?_
    refine wpL_region ?_
    refine sY hf hs rfl rfl rfl (Y_assign rfl rfl) ?_; clear hf; intro a hf
    refine wpO_nil ?_
    obtain rfl := Option.some.inj hm
    refine wpL_ret (ret_tmp rfl hf rfl ?_)
    exact ⟨_, rfl, rfl, hs⟩
  · have hm := bif_f hm hb1
    refine wpL_skip ?_
    refine wpL_seq ?_
    refine wpL_region ?_
    refine sY hf hs rfl rfl rfl (Y_assign rfl rfl) ?_; clear hf; intro a hf
    refine wpO_nil ?_
    obtain rfl := Option.some.inj hm
    refine wpL_ret (ret_tmp rfl hf rfl ?_)
    exact ⟨_, rfl, rfl, hs⟩

set_option maxRecDepth 100000 in
theorem impl_unitMatrix_ok (F : Nat) (p0_n : Int) (r : List (List Int)) (W : World) (hm : impl_unitMatrix F p0_n = some r) :
    Calls Try.prog 134 [.int .i64 p0_n].toArray W fun e w' => ∃ v, e = .returned v ∧ ∃ A8, ∃ n9, ∃ c10, ∃ vs12, v = .slice A8 n9 c10 ∧ n9 = r.length ∧ St [] W w' [.mat A8 n9 c10 36 2 vs12 r] := by
  unfold impl_unitMatrix at hm
  refine Calls.enter (N := 6) Try.func134 rfl rfl rfl (fun a hf => ?_)
  have hs := St.start W
  obtain ⟨w, hw_⟩ : ∃ w, w = W := ⟨W, rfl⟩
  clear hw_ w
  refine wpL_seq ?_
  refine wpL_region ?_
  refine sY hf hs rfl rfl rfl (Y_assign rfl rfl) ?_; clear hf; intro a hf
  refine wpO_nil ?_
  refine wpL_seq ?_
  refine wpL_region ?_
  refine sY hf hs rfl rfl rfl (Y_move rfl rfl) ?_; clear hf; intro a hf
  refine sY hf hs rfl rfl rfl (Y_move rfl rfl) ?_; clear hf; intro a hf
  obtain ⟨r1, hc2, hm⟩ := bind_some hm
  refine sCall hf rfl rfl rfl rfl (cap := []) rfl rfl en168 (impl_matrixBy_ok F p0_n p0_n (fun x0 x1 => impl_unitMatrix_c1 F x0 x1) 170 [] _ _ hc2 (fun x0 x1 r w' hm_ hb => impl_unitMatrix_c1_ok F x0 x1 r w' hm_ ) en170) ?_; clear hf
  rintro _ w ⟨A3, n4, c5, vs7, rfl, hn6, hs1⟩ a hf
  have hs : St [] W w [.mat A3 n4 c5 36 2 vs7 r1] := hs.join hs1
  clear hs1
  refine sY hf hs rfl rfl rfl (Y_assign rfl rfl) ?_; clear hf; intro a hf
  refine wpO_nil ?_
  obtain rfl := Option.some.inj hm
  refine wpL_ret (ret_tmp rfl hf rfl ?_)
  exact ⟨_, rfl, A3, n4, c5, vs7, rfl, hn6, hs⟩

set_option maxRecDepth 100000 in
theorem impl_addMatrices_c1_ok (F : Nat) (p0_i : Int) (p1_j : Int) (b_z0 : Nat) (z0 : List (List Int)) (A_z0_1 : Option Addr) (n_z0_1 c_z0_1 : Nat) (hn_z0_1 : n_z0_1 = z0.length) (b_z1 : Nat) (z1 : List (List Int)) (A_z1_1 : Option Addr) (n_z1_1 c_z1_1 : Nat) (hn_z1_1 : n_z1_1 = z1.length) (r : Int) (W : World) (hm : impl_addMatrices_c1 F p0_i p1_j z0 z1 = some r) (h_z0_1 : RdM W A_z0_1 z0) (h_z0 : PB W b_z0 34 [.slice A_z0_1 n_z0_1 c_z0_1]) (h_z1_1 : RdM W A_z1_1 z1) (h_z1 : PB W b_z1 34 [.slice A_z1_1 n_z1_1 c_z1_1]) :
    Calls Try.prog 169 [.int .i64 p0_i, .int .i64 p1_j, .pointer (some ⟨b_z0, 0, none⟩), .pointer (some ⟨b_z1, 0, none⟩)].toArray W fun e w' => ∃ v, e = .returned v ∧ v = .int .i64 r ∧ St [] W w' [] := by
  subst hn_z0_1
  subst hn_z1_1
  unfold impl_addMatrices_c1 at hm
  refine Calls.enter (N := 22) Try.func169 rfl rfl rfl (fun a hf => ?_)
  have hs := St.start W
  obtain ⟨w, hw_⟩ : ∃ w, w = W := ⟨W, rfl⟩
  clear hw_ w
  refine wpL_seq ?_
  refine wpL_region ?_
  refine sY hf hs rfl rfl rfl (Y_assign rfl rfl) ?_; clear hf; intro a hf
  refine wpO_nil ?_
  refine wpL_seq ?_
  refine wpL_draw (by kernel_rfl) (by kernel_rfl) hs ?_
  refine qY hf rfl rfl rfl (Y_load_pb rfl rfl h_z0 rfl ag34) ?_; clear hf; intro a hf
  refine qY hf rfl rfl rfl (Y_move rfl rfl) ?_; clear hf; intro a hf
  obtain ⟨q1, hi2, hm⟩ := bind_some hm
  obtain ⟨hi2a, hi2b, hi2q⟩ := idx_some hi2
  obtain ⟨vs3, hv4, hr5⟩ := id h_z0_1
  obtain ⟨A6, c7, hv8, hR9⟩ := hr5 _ _ hi2q
  refine qY hf rfl rfl rfl (Y_index rfl rfl rfl el34 ti36 (Rd.isAt hv4 hv8) hi2a hi2b) ?_; clear hf; intro a hf
  refine qY hf rfl rfl rfl (Y_load_rd rfl rfl (fun w hs => hv4.at hs) (at1 hv8) ag36) ?_; clear hf; intro a hf
  refine qY hf rfl rfl rfl (Y_move rfl rfl) ?_; clear hf; intro a hf
  obtain ⟨q10, hi11, hm⟩ := bind_some hm
  obtain ⟨hi11a, hi11b, hi11q⟩ := idx_some hi11
  refine qY hf rfl rfl rfl (Y_index rfl rfl rfl el36 ti2 (Rd.isAt (hR9.at hs) (at1 (ints_at hi11q))) hi11a hi11b) ?_; clear hf; intro a hf
  refine qY hf rfl rfl rfl (Y_load_rd rfl rfl (fun w hs => hR9.at hs) (at1 (ints_at hi11q)) ag2) ?_; clear hf; intro a hf
  refine qY hf rfl rfl rfl (Y_load_pb rfl rfl h_z1 rfl ag34) ?_; clear hf; intro a hf
  refine qY hf rfl rfl rfl (Y_move rfl rfl) ?_; clear hf; intro a hf
  obtain ⟨q12, hi13, hm⟩ := bind_some hm
  obtain ⟨hi13a, hi13b, hi13q⟩ := idx_some hi13
  obtain ⟨vs14, hv15, hr16⟩ := id h_z1_1
  obtain ⟨A17, c18, hv19, hR20⟩ := hr16 _ _ hi13q
  refine qY hf rfl rfl rfl (Y_index rfl rfl rfl el34 ti36 (Rd.isAt hv15 hv19) hi13a hi13b) ?_; clear hf; intro a hf
  refine qY hf rfl rfl rfl (Y_load_rd rfl rfl (fun w hs => hv15.at hs) (at1 hv19) ag36) ?_; clear hf; intro a hf
  refine qY hf rfl rfl rfl (Y_move rfl rfl) ?_; clear hf; intro a hf
  obtain ⟨q21, hi22, hm⟩ := bind_some hm
  obtain ⟨hi22a, hi22b, hi22q⟩ := idx_some hi22
  refine qY hf rfl rfl rfl (Y_index rfl rfl rfl el36 ti2 (Rd.isAt (hR20.at hs) (at1 (ints_at hi22q))) hi22a hi22b) ?_; clear hf; intro a hf
  refine qY hf rfl rfl rfl (Y_load_rd rfl rfl (fun w hs => hR20.at hs) (at1 (ints_at hi22q)) ag2) ?_; clear hf; intro a hf
  refine qY hf rfl rfl rfl (Y_max rfl rfl rfl) ?_; clear hf; intro a hf
  refine qY hf rfl rfl rfl (Y_assign rfl rfl) ?_; clear hf; intro a hf
  refine qNil ?_; clear hs; intro w hs
  obtain rfl := Option.some.inj hm
  refine wpL_ret (ret_tmp rfl hf rfl ?_)
  exact ⟨_, rfl, rfl, hs⟩

set_option maxRecDepth 100000 in
theorem impl_addMatrices_ok (F : Nat) (p0_a : List (List Int)) (A_p0_a_1 : Option Addr) (n_p0_a_1 c_p0_a_1 : Nat) (hn_p0_a_1 : n_p0_a_1 = p0_a.length) (p1_b : List (List Int)) (A_p1_b_1 : Option Addr) (n_p1_b_1 c_p1_b_1 : Nat) (hn_p1_b_1 : n_p1_b_1 = p1_b.length) (r : List (List Int)) (W : World) (hm : impl_addMatrices F p0_a p1_b = some r) (h_p0_a_1 : RdM W A_p0_a_1 p0_a) (h_p1_b_1 : RdM W A_p1_b_1 p1_b) :
    Calls Try.prog 133 [.slice A_p0_a_1 n_p0_a_1 c_p0_a_1, .slice A_p1_b_1 n_p1_b_1 c_p1_b_1].toArray W fun e w' => ∃ v, e = .returned v ∧ ∃ A35, ∃ n36, ∃ c37, ∃ vs39, v = .slice A35 n36 c37 ∧ n36 = r.length ∧ St [] W w' [.mat A35 n36 c37 36 2 vs39 r] := by
  subst hn_p0_a_1
  subst hn_p1_b_1
  unfold impl_addMatrices at hm
  refine Calls.enter (N := 13) Try.func133 rfl rfl rfl (fun a hf => ?_)
  have hs := St.start W
  obtain ⟨w, hw_⟩ : ∃ w, w = W := ⟨W, rfl⟩
  clear hw_ w
  refine wpL_seq ?_
  refine wpL_region ?_
  refine sBox hf hs rfl rfl rfl rfl rfl (cs := [.slice A_p0_a_1 p0_a.length c_p0_a_1]) rfl ?_; clear hf hs; intro a w b1 hs hf
  have hs : St [] W w [.blk b1 34 [.slice A_p0_a_1 p0_a.length c_p0_a_1]] := hs
  refine sBox hf hs rfl rfl rfl rfl rfl (cs := [.slice A_p1_b_1 p1_b.length c_p1_b_1]) rfl ?_; clear hf hs; intro a w b2 hs hf
  have hs : St [] W w [.blk b1 34 [.slice A_p0_a_1 p0_a.length c_p0_a_1], .blk b2 34 [.slice A_p1_b_1 p1_b.length c_p1_b_1]] := hs
  refine sY hf hs rfl rfl rfl (Y_assign rfl rfl) ?_; clear hf; intro a hf
  refine wpO_nil ?_
  refine wpL_seq ?_
  refine wpL_drawG [.blk b1 34 [.slice A_p0_a_1 p0_a.length c_p0_a_1], .blk b2 34 [.slice A_p1_b_1 p1_b.length c_p1_b_1]] 9 (by kernel_rfl) hs ?_; clear hs; intro w hs
  have hs0 : St [] W w [.blk b1 34 [.slice A_p0_a_1 p0_a.length c_p0_a_1], .blk b2 34 [.slice A_p1_b_1 p1_b.length c_p1_b_1]] := hs
  refine gY (i := 0) [] rfl (by kernel_rfl) (by kernel_rfl) hf hs0 rfl rfl rfl (Y_load_blk rfl rfl (i := 0) rfl rfl ag34) ?_; clear hf; intro a hf
  refine gY (i := 1) [] rfl (by kernel_rfl) (by kernel_rfl) hf hs0 rfl rfl rfl (Y_lenH rfl rfl el34 rfl) ?_; clear hf; intro a hf
  refine gY (i := 2) [] rfl (by kernel_rfl) (by kernel_rfl) hf hs0 rfl rfl rfl (Y_load_blk rfl rfl (i := 0) rfl rfl ag34) ?_; clear hf; intro a hf
  obtain ⟨q19, hi20, hm⟩ := bind_some hm
  obtain ⟨hi20a, hi20b, hi20q⟩ := idx_some hi20
  obtain ⟨vs21, hv22, hr23⟩ := id h_p0_a_1
  obtain ⟨A24, c25, hv26, hR27⟩ := hr23 _ _ hi20q
  refine gY (i := 3) [] rfl (by kernel_rfl) (by kernel_rfl) hf hs0 rfl rfl rfl (Y_index rfl rfl rfl el34 ti36 (Rd.isAt hv22 hv26) hi20a hi20b) ?_; clear hf; intro a hf
  refine gY (i := 4) [] rfl (by kernel_rfl) (by kernel_rfl) hf hs0 rfl rfl rfl (Y_load_rd rfl rfl (fun w hs => hv22.at hs) (at1 hv26) ag36) ?_; clear hf; intro a hf
  refine gY (i := 5) [] rfl (by kernel_rfl) (by kernel_rfl) hf hs0 rfl rfl rfl (Y_lenH rfl rfl el36 rfl) ?_; clear hf; intro a hf
  refine gY (i := 6) [] rfl (by kernel_rfl) (by kernel_rfl) hf hs0 rfl rfl rfl (Y_makeFunc (us := []) (vs := [.pointer (some ⟨b1, 0, none⟩), .pointer (some ⟨b2, 0, none⟩)]) rfl rfl rfl) ?_; clear hf; intro a hf
  refine gRun (i := 7) rfl (by kernel_rfl) ?_
  obtain ⟨r28, hc29, hm⟩ := bind_some hm
  refine sCall hf rfl rfl rfl rfl (cap := []) rfl rfl en168 (impl_matrixBy_ok F (p0_a.length : Int) (q19.length : Int) (fun x0 x1 => impl_addMatrices_c1 F x0 x1 p0_a p1_b) 169 ([.pointer (some ⟨b1, 0, none⟩), .pointer (some ⟨b2, 0, none⟩)]) _ _ hc29 (fun x0 x1 r w' hm_ hb => impl_addMatrices_c1_ok F x0 x1 b1 p0_a A_p0_a_1 p0_a.length c_p0_a_1 rfl b2 p1_b A_p1_b_1 p1_b.length c_p1_b_1 rfl r w' hm_ ((h_p0_a_1.at hs).below hb (Nat.le_refl _)) ((hs.pb (i := 0) rfl).below hb (Nat.le_refl _)) ((h_p1_b_1.at hs).below hb (Nat.le_refl _)) ((hs.pb (i := 1) rfl).below hb (Nat.le_refl _))) en169) ?_; clear hf
  rintro _ w ⟨A30, n31, c32, vs34, rfl, hn33, hs1⟩ a hf
  have hs : St [] W w [.blk b1 34 [.slice A_p0_a_1 p0_a.length c_p0_a_1], .blk b2 34 [.slice A_p1_b_1 p1_b.length c_p1_b_1], .mat A30 n31 c32 36 2 vs34 r28] := hs.join hs1
  clear hs1
  have hs0 : St [] W w [.blk b1 34 [.slice A_p0_a_1 p0_a.length c_p0_a_1], .blk b2 34 [.slice A_p1_b_1 p1_b.length c_p1_b_1]] := hs.sel [0, 1] (by decide)
  refine wpO_nil ⟨Or.inr hs0, ?_⟩
  refine gY (i := 8) [] rfl (by kernel_rfl) (by kernel_rfl) hf hs0 rfl rfl rfl (Y_assign rfl rfl) ?_; clear hf; intro a hf
  refine gDone (by kernel_rfl) ?_
  clear hs0
  obtain rfl := Option.some.inj hm
  refine wpL_ret (ret_tmp rfl hf rfl ?_)
  exact ⟨_, rfl, A30, n31, c32, vs34, rfl, hn33, hs.sel [2] (by decide)⟩

set_option maxRecDepth 100000 in
theorem impl_times_ok (F : Nat) (p0_a : Int) (p1_b : Int) (r : Int) (W : World) (hm : impl_times F p0_a p1_b = some r) :
    Calls Try.prog 135 [.int .i64 p0_a, .int .i64 p1_b].toArray W fun e w' => ∃ v, e = .returned v ∧ v = .int .i64 r ∧ St [] W w' [] := by
  unfold impl_times at hm
  refine Calls.enter (N := 14) Try.func135 rfl rfl rfl (fun a hf => ?_)
  have hs := St.start W
  obtain ⟨w, hw_⟩ : ∃ w, w = W := ⟨W, rfl⟩
  clear hw_ w
  refine wpL_seq ?_
  refine wpL_region ?_
  refine sY hf hs rfl rfl rfl (Y_assign rfl rfl) ?_; clear hf; intro a hf
  refine wpO_nil ?_
  refine wpL_seq ?_
  refine wpL_seq ?_
  obtain ⟨r3, hj4, hm⟩ := bind_some hm
  refine wpL_cut (fun a w => ∃ b2 : Bool, b2 = r3 ∧ Fr a 14 [(0, .int .i64 p0_a), (1, .int .i64 p1_b), (10, .bool b2)] ∧ St [] W w []) ?_ ?_
  · refine wpL_region ?_
    refine sY hf hs rfl rfl rfl (Y_move rfl rfl) ?_; clear hf; intro a hf
    refine sY hf hs rfl rfl rfl (Y_eql rfl rfl rfl) ?_; clear hf; intro a hf
    refine sY hf hs rfl rfl rfl (Y_move rfl rfl) ?_; clear hf; intro a hf
    refine bsplit (p0_a == (-1000000000000000)) (fun hb5 => ?_) (fun hb5 => ?_)
    · have hj4 := bif_t hj4 hb5
      refine sNo hf rfl rfl rfl (congrArg (fun b => some (Value.bool b)) hb5) rfl rfl rfl ?_; clear hf; intro a hf
      refine sNo hf rfl rfl rfl (congrArg (fun b => some (Value.bool b)) hb5) rfl rfl rfl ?_; clear hf; intro a hf
      refine sY hf hs rfl rfl rfl (Y_pickT rfl (congrArg (fun b => some (Value.bool b)) hb5) rfl) ?_; clear hf; intro a hf
      refine wpO_nil ?_
      refine wpL_nil (then_normal ?_)
      exact ⟨true, Option.some.inj hj4, (Fr.pick (Fr.pick (Fr.pick hf.none hf rfl) hf rfl) hf rfl), hs⟩
    · have hj4 := bif_f hj4 hb5
      refine sYg hf hs rfl rfl rfl (congrArg (fun b => some (Value.bool b)) hb5) rfl rfl rfl (Y_move rfl rfl) ?_; clear hf; intro a hf
      refine sYg hf hs rfl rfl rfl (congrArg (fun b => some (Value.bool b)) hb5) rfl rfl rfl (Y_eql rfl rfl rfl) ?_; clear hf; intro a hf
      refine sY hf hs rfl rfl rfl (Y_pickF rfl (congrArg (fun b => some (Value.bool b)) hb5) rfl) ?_; clear hf; intro a hf
      refine wpO_nil ?_
      refine wpL_nil (then_normal ?_)
      exact ⟨(p1_b == (-1000000000000000)), Option.some.inj hj4, (Fr.pick (Fr.pick (Fr.pick hf.none hf rfl) hf rfl) hf rfl), hs⟩
  · rintro a w ⟨b2, hr_, hf, hs⟩
    subst hr_
    try dsimp only at hm
    refine wpL_cond hf rfl (fun hb6 => ?_) (fun hb6 => ?_)
    · have hm := bif_t hm hb6
      refine wpL_seq ?_
      refine wpL_region ?_
      refine sY hf hs rfl rfl rfl (Y_assign rfl rfl) ?_; clear hf; intro a hf
      refine wpO_nil ?_
      obtain rfl := Option.some.inj hm
      refine wpL_ret (ret_tmp rfl hf rfl ?_)
      exact ⟨_, rfl, rfl, hs⟩
    · have hm := bif_f hm hb6
      refine wpL_skip ?_
      refine wpL_seq ?_
      refine wpL_region ?_
      refine sY hf hs rfl rfl rfl (Y_move rfl rfl) ?_; clear hf; intro a hf
      refine sY hf hs rfl rfl rfl (Y_move rfl rfl) ?_; clear hf; intro a hf
      refine sY hf hs rfl rfl rfl (Y_add rfl rfl rfl) ?_; clear hf; intro a hf
      refine sY hf hs rfl rfl rfl (Y_assign rfl rfl) ?_; clear hf; intro a hf
      refine wpO_nil ?_
      obtain rfl := Option.some.inj hm
      refine wpL_ret (ret_tmp rfl hf rfl ?_)
      exact ⟨_, rfl, rfl, hs⟩

set_option maxRecDepth 100000 in
theorem impl_starOf_ok (F : Nat) (p0 : List (List Int)) (A_p0_1 : Option Addr) (n_p0_1 c_p0_1 : Nat) (hn_p0_1 : n_p0_1 = p0.length) (r : List (List Int) × Bool) (W : World) (hm : impl_starOf F p0 = some r) (h_p0_1 : RdM W A_p0_1 p0) :
    Calls Try.prog 83 [.slice A_p0_1 n_p0_1 c_p0_1].toArray W fun e w' => ∃ v, e = .returned v ∧ ∃ A5035, ∃ n5036, ∃ c5037, ∃ vs5039, v = .tuple #[.slice A5035 n5036 c5037, .bool r.2] ∧ n5036 = r.1.length ∧ St [] W w' [.mat A5035 n5036 c5037 36 2 vs5039 r.1] := by
  subst hn_p0_1
  unfold impl_starOf at hm
  refine Calls.enter (N := 84) Try.func83 rfl rfl rfl (fun a hf => ?_)
  have hs := St.start W
  obtain ⟨w, hw_⟩ : ∃ w, w = W := ⟨W, rfl⟩
  clear hw_ w
  refine wpL_seq ?_
  refine wpL_region ?_
  refine sY hf hs rfl rfl rfl (Y_assign rfl rfl) ?_; clear hf; intro a hf
  refine sY hf hs rfl rfl rfl (Y_assign rfl rfl) ?_; clear hf; intro a hf
  refine wpO_nil ?_
  refine wpL_seq ?_
  refine wpL_region ?_
  refine sY hf hs rfl rfl rfl (Y_move rfl rfl) ?_; clear hf; intro a hf
  refine sY hf hs rfl rfl rfl (Y_move rfl rfl) ?_; clear hf; intro a hf
  refine sY hf hs rfl rfl rfl (Y_lenH rfl rfl el34 rfl) ?_; clear hf; intro a hf
  obtain ⟨r1, hc2, hm⟩ := bind_some hm
  refine sCall hf rfl rfl rfl rfl (cap := []) rfl rfl en134 (impl_unitMatrix_ok F (p0.length : Int) _ _ hc2) ?_; clear hf
  rintro _ w ⟨A3, n4, c5, vs7, rfl, hn6, hs1⟩ a hf
  have hs : St [] W w [.mat A3 n4 c5 36 2 vs7 r1] := hs.join hs1
  clear hs1
  obtain ⟨r8, hc9, hm⟩ := bind_some hm
  refine sCall hf rfl rfl rfl rfl (cap := []) rfl rfl en133 (impl_addMatrices_ok F p0 A_p0_1 p0.length c_p0_1 rfl r1 A3 n4 c5 hn6 _ _ hc9 (h_p0_1.at hs) (hs.rdM (i := 0) rfl)) ?_; clear hf
  rintro _ w ⟨A10, n11, c12, vs14, rfl, hn13, hs1⟩ a hf
  have hs : St [] W w [.mat A3 n4 c5 36 2 vs7 r1, .mat A10 n11 c12 36 2 vs14 r8] := hs.join hs1
  clear hs1
  refine sY hf hs rfl rfl rfl (Y_assign rfl rfl) ?_; clear hf; intro a hf
  refine wpO_nil ?_
  refine wpL_seq ?_
  refine wpL_seq ?_
  refine wpL_region ?_
  refine sY hf hs rfl rfl rfl (Y_move rfl rfl) ?_; clear hf; intro a hf
  refine sY hf hs rfl rfl rfl (Y_lenH rfl rfl el34 hn13) ?_; clear hf; intro a hf
  refine sY hf hs rfl rfl rfl (Y_move rfl rfl) ?_; clear hf; intro a hf
  refine wpO_nil ?_
  obtain ⟨r3746, hl3747, hm⟩ := bind_some hm
  refine wpL_block (fun a w => ∃ ms3744 : List (List Int), Sum.inr ms3744 = r3746 ∧ n11 = ms3744.length ∧ Fr a 84 [(4, .slice A10 n11 c12)] ∧ St [] W w [.mat A10 n11 c12 36 2 vs14 ms3744]) ?_ ?_
  · refine wpL_loop (fun n a w => ∃ ms2500 : List (List Int), ∃ x2502 : Int, impl_starOf_L16 F r8 n ms2500 x2502 = some r3746 ∧ n11 = ms2500.length ∧ Fr a 84 [(4, .slice A10 n11 c12), (15, .int .i64 (r8.length : Int)), (16, .int .i64 x2502)] ∧ St [] W w [.mat A10 n11 c12 36 2 vs14 ms2500]) F ?_ ?_ ?_
    · exact ⟨r8, 0, hl3747, hn13, (Fr.pick (Fr.pick (Fr.pick hf.none hf rfl) hf rfl) hf rfl), hs.sel [1] (by decide)⟩
    · rintro a w ⟨ms2500, x2502, h0_, -, -, -⟩; simp [impl_starOf_L16] at h0_
    · rintro n3749 a w ⟨ms2500, x2502, hm3748, hn2501, hf, hs⟩
      rw [impl_starOf_L16] at hm3748
      refine wpL_seq ?_
      refine wpL_region ?_
      refine sY hf hs rfl rfl rfl (Y_lss rfl rfl rfl) ?_; clear hf; intro a hf
      refine wpO_nil ?_
      refine wpL_seq ?_
      refine wpL_cond hf rfl (fun hb3750 => ?_) (fun hb3750 => ?_)
      · have hm3748 := bif_t hm3748 hb3750
        refine wpL_skip ?_
        refine wpL_seq ?_
        refine wpL_block0 ?_
        refine wpL_seq ?_
        refine wpL_region ?_
        refine sY hf hs rfl rfl rfl (Y_move rfl rfl) ?_; clear hf; intro a hf
        refine sY hf hs rfl rfl rfl (Y_assign rfl rfl) ?_; clear hf; intro a hf
        refine wpO_nil ?_
        refine wpL_seq ?_
        refine wpL_seq ?_
        refine wpL_region ?_
        refine sY hf hs rfl rfl rfl (Y_move rfl rfl) ?_; clear hf; intro a hf
        refine sY hf hs rfl rfl rfl (Y_move rfl rfl) ?_; clear hf; intro a hf
        obtain ⟨q3751, hi3752, hm3748⟩ := bind_some hm3748
        obtain ⟨hi3752a, hi3752b, hi3752q⟩ := idx_some hi3752
        obtain ⟨A3753, c3754, hv3755⟩ := hs.matRow (i := 0) rfl hi3752q
        refine sY hf hs rfl rfl rfl (Y_index rfl rfl rfl el34 ti36 (Rd.isAt (hs.rdV (i := 0) rfl) hv3755) hi3752a (ltn hn2501 hi3752b)) ?_; clear hf; intro a hf
        refine sY hf hs rfl rfl rfl (Y_load_rd rfl rfl (fun w hs => hs.rdV (i := 0) rfl) (at1 hv3755) ag36) ?_; clear hf; intro a hf
        refine sY hf hs rfl rfl rfl (Y_move rfl rfl) ?_; clear hf; intro a hf
        obtain ⟨q3756, hi3757, hm3748⟩ := bind_some hm3748
        obtain ⟨hi3757a, hi3757b, hi3757q⟩ := idx_some hi3757
        refine sY hf hs rfl rfl rfl (Y_index rfl rfl rfl el36 ti2 (Rd.isAt (hs.rdRow (i := 0) rfl ⟨hi3752q, hv3755⟩) (at1 (ints_at hi3757q))) hi3757a hi3757b) ?_; clear hf; intro a hf
        refine sY hf hs rfl rfl rfl (Y_load_rd rfl rfl (fun w hs => hs.rdRow (i := 0) rfl ⟨hi3752q, hv3755⟩) (at1 (ints_at hi3757q)) ag2) ?_; clear hf; intro a hf
        refine sY hf hs rfl rfl rfl (Y_gtr rfl rfl rfl) ?_; clear hf; intro a hf
        refine wpO_nil ?_
        refine wpL_cond hf rfl (fun hb3758 => ?_) (fun hb3758 => ?_)
        · have hm3748 := bif_t hm3748 hb3758
          refine wpL_seq ?_
          refine wpL_region ?_
          refine sY hf hs rfl rfl rfl (Y_assign rfl rfl) ?_; clear hf; intro a hf
          refine sY hf hs rfl rfl rfl (Y_assign rfl rfl) ?_; clear hf; intro a hf
          refine wpO_nil ?_
          have hs : St [] W _ [.mat A10 n11 c12 36 2 vs14 ms2500, .mat none 0 0 36 2 [] ([] : List (List Int))] := hs.addNilM 36 2
          obtain rfl := Option.some.inj hm3748
          try dsimp only at hm
          obtain rfl := Option.some.inj hm
          refine wpL_ret (Qb_ret (Ql_ret (Qb_ret (ret_tmp2 rfl hf rfl rfl ?_))))
          exact ⟨_, rfl, none, 0, 0, [], rfl, rfl, hs.sel [1] (by decide)⟩
        · have hm3748 := bif_f hm3748 hb3758
          refine wpL_skip ?_
          refine wpL_seq ?_
          refine wpL_region ?_
          refine sY hf hs rfl rfl rfl (Y_move rfl rfl) ?_; clear hf; intro a hf
          refine sY hf hs rfl rfl rfl (Y_lenH rfl rfl el34 hn2501) ?_; clear hf; intro a hf
          refine sY hf hs rfl rfl rfl (Y_move rfl rfl) ?_; clear hf; intro a hf
          refine wpO_nil ?_
          obtain ⟨r4683, hl4684, hm3748⟩ := bind_some hm3748
          refine wpL_block (fun a w => ∃ ms4681 : List (List Int), ms4681 = r4683 ∧ n11 = ms4681.length ∧ Fr a 84 [(4, .slice A10 n11 c12), (15, .int .i64 (r8.length : Int)), (16, .int .i64 x2502)] ∧ St [] W w [.mat A10 n11 c12 36 2 vs14 ms4681]) ?_ ?_
          · refine wpL_loop (fun n a w => ∃ ms4373 : List (List Int), ∃ x4375 : Int, impl_starOf_L20 F ms2500 x2502 n ms4373 x4375 = some r4683 ∧ n11 = ms4373.length ∧ Fr a 84 [(4, .slice A10 n11 c12), (5, .int .i64 x2502), (15, .int .i64 (r8.length : Int)), (16, .int .i64 x2502), (28, .int .i64 (ms2500.length : Int)), (29, .int .i64 x4375)] ∧ St [] W w [.mat A10 n11 c12 36 2 vs14 ms4373]) F ?_ ?_ ?_
            · exact ⟨ms2500, 0, hl4684, hn2501, (Fr.pick (Fr.pick (Fr.pick (Fr.pick (Fr.pick (Fr.pick hf.none hf rfl) hf rfl) hf rfl) hf rfl) hf rfl) hf rfl), hs⟩
            · rintro a w ⟨ms4373, x4375, h0_, -, -, -⟩; simp [impl_starOf_L20] at h0_
            · rintro n4686 a w ⟨ms4373, x4375, hm4685, hn4374, hf, hs⟩
              rw [impl_starOf_L20] at hm4685
              refine wpL_seq ?_
              refine wpL_region ?_
              refine sY hf hs rfl rfl rfl (Y_lss rfl rfl rfl) ?_; clear hf; intro a hf
              refine wpO_nil ?_
              refine wpL_seq ?_
              refine wpL_cond hf rfl (fun hb4687 => ?_) (fun hb4687 => ?_)
              · have hm4685 := bif_t hm4685 hb4687
                refine wpL_skip ?_
                refine wpL_seq ?_
                refine wpL_block0 ?_
                refine wpL_seq ?_
                refine wpL_region ?_
                refine sY hf hs rfl rfl rfl (Y_move rfl rfl) ?_; clear hf; intro a hf
                refine sY hf hs rfl rfl rfl (Y_assign rfl rfl) ?_; clear hf; intro a hf
                refine wpO_nil ?_
                refine wpL_seq ?_
                refine wpL_region ?_
                refine sY hf hs rfl rfl rfl (Y_move rfl rfl) ?_; clear hf; intro a hf
                refine sY hf hs rfl rfl rfl (Y_lenH rfl rfl el34 hn4374) ?_; clear hf; intro a hf
                refine sY hf hs rfl rfl rfl (Y_move rfl rfl) ?_; clear hf; intro a hf
                refine wpO_nil ?_
                obtain ⟨r4915, hl4916, hm4685⟩ := bind_some hm4685
                refine wpL_block (fun a w => ∃ ms4913 : List (List Int), ms4913 = r4915 ∧ n11 = ms4913.length ∧ Fr a 84 [(4, .slice A10 n11 c12), (5, .int .i64 x2502), (15, .int .i64 (r8.length : Int)), (16, .int .i64 x2502), (28, .int .i64 (ms2500.length : Int)), (29, .int .i64 x4375)] ∧ St [] W w [.mat A10 n11 c12 36 2 vs14 ms4913]) ?_ ?_
                · refine wpL_loop (fun n a w => ∃ ms4837 : List (List Int), ∃ x4839 : Int, impl_starOf_L21 F x2502 ms4373 x4375 n ms4837 x4839 = some r4915 ∧ n11 = ms4837.length ∧ Fr a 84 [(4, .slice A10 n11 c12), (5, .int .i64 x2502), (6, .int .i64 x4375), (15, .int .i64 (r8.length : Int)), (16, .int .i64 x2502), (28, .int .i64 (ms2500.length : Int)), (29, .int .i64 x4375), (33, .int .i64 (ms4373.length : Int)), (34, .int .i64 x4839)] ∧ St [] W w [.mat A10 n11 c12 36 2 vs14 ms4837]) F ?_ ?_ ?_
                  · exact ⟨ms4373, 0, hl4916, hn4374, (Fr.pick (Fr.pick (Fr.pick (Fr.pick (Fr.pick (Fr.pick (Fr.pick (Fr.pick (Fr.pick hf.none hf rfl) hf rfl) hf rfl) hf rfl) hf rfl) hf rfl) hf rfl) hf rfl) hf rfl), hs⟩
                  · rintro a w ⟨ms4837, x4839, h0_, -, -, -⟩; simp [impl_starOf_L21] at h0_
                  · rintro n4918 a w ⟨ms4837, x4839, hm4917, hn4838, hf, hs⟩
                    rw [impl_starOf_L21] at hm4917
                    refine wpL_seq ?_
                    refine wpL_region ?_
                    refine sY hf hs rfl rfl rfl (Y_lss rfl rfl rfl) ?_; clear hf; intro a hf
                    refine wpO_nil ?_
                    refine wpL_seq ?_
                    refine wpL_cond hf rfl (fun hb4919 => ?_) (fun hb4919 => ?_)
                    · have hm4917 := bif_t hm4917 hb4919
                      refine wpL_skip ?_
                      refine wpL_seq ?_
                      refine wpL_block0 ?_
                      refine wpL_seq ?_
                      refine wpL_region ?_
                      refine sY hf hs rfl rfl rfl (Y_move rfl rfl) ?_; clear hf; intro a hf
                      refine sY hf hs rfl rfl rfl (Y_assign rfl rfl) ?_; clear hf; intro a hf
                      refine wpO_nil ?_
                      refine wpL_drawG [.mat A10 n11 c12 36 2 vs14 ms4837] 29 (by kernel_rfl) hs ?_; clear hs; intro w hs
                      have hs0 : St [] W w [.mat A10 n11 c12 36 2 vs14 ms4837] := hs
                      refine gY (i := 0) [] rfl (by kernel_rfl) (by kernel_rfl) hf hs0 rfl rfl rfl (Y_move rfl rfl) ?_; clear hf; intro a hf
                      refine gY (i := 1) [] rfl (by kernel_rfl) (by kernel_rfl) hf hs0 rfl rfl rfl (Y_move rfl rfl) ?_; clear hf; intro a hf
                      obtain ⟨q4956, hi4957, hm4917⟩ := bind_some hm4917
                      obtain ⟨hi4957a, hi4957b, hi4957q⟩ := idx_some hi4957
                      obtain ⟨A4958, c4959, hv4960⟩ := hs0.matRow (i := 0) rfl hi4957q
                      refine gY (i := 2) [] rfl (by kernel_rfl) (by kernel_rfl) hf hs0 rfl rfl rfl (Y_index rfl rfl rfl el34 ti36 (Rd.isAt (hs0.rdV (i := 0) rfl) hv4960) hi4957a (ltn hn4838 hi4957b)) ?_; clear hf; intro a hf
                      refine gY (i := 3) [] rfl (by kernel_rfl) (by kernel_rfl) hf hs0 rfl rfl rfl (Y_load_rd rfl rfl (fun w hs => hs.rdV (i := 0) rfl) (at1 hv4960) ag36) ?_; clear hf; intro a hf
                      refine gY (i := 4) [] rfl (by kernel_rfl) (by kernel_rfl) hf hs0 rfl rfl rfl (Y_move rfl rfl) ?_; clear hf; intro a hf
                      refine gY (i := 5) [] rfl (by kernel_rfl) (by kernel_rfl) hf hs0 rfl rfl rfl (Y_move rfl rfl) ?_; clear hf; intro a hf
                      refine gY (i := 6) [] rfl (by kernel_rfl) (by kernel_rfl) hf hs0 rfl rfl rfl (Y_move rfl rfl) ?_; clear hf; intro a hf
                      obtain ⟨q4961, hi4962, hm4917⟩ := bind_some hm4917
                      obtain ⟨hi4962a, hi4962b, hi4962q⟩ := idx_some hi4962
                      obtain ⟨A4963, c4964, hv4965⟩ := hs0.matRow (i := 0) rfl hi4962q
                      refine gY (i := 7) [] rfl (by kernel_rfl) (by kernel_rfl) hf hs0 rfl rfl rfl (Y_index rfl rfl rfl el34 ti36 (Rd.isAt (hs0.rdV (i := 0) rfl) hv4965) hi4962a (ltn hn4838 hi4962b)) ?_; clear hf; intro a hf
                      refine gY (i := 8) [] rfl (by kernel_rfl) (by kernel_rfl) hf hs0 rfl rfl rfl (Y_load_rd rfl rfl (fun w hs => hs.rdV (i := 0) rfl) (at1 hv4965) ag36) ?_; clear hf; intro a hf
                      refine gY (i := 9) [] rfl (by kernel_rfl) (by kernel_rfl) hf hs0 rfl rfl rfl (Y_move rfl rfl) ?_; clear hf; intro a hf
                      obtain ⟨q4966, hi4967, hm4917⟩ := bind_some hm4917
                      obtain ⟨hi4967a, hi4967b, hi4967q⟩ := idx_some hi4967
                      refine gY (i := 10) [] rfl (by kernel_rfl) (by kernel_rfl) hf hs0 rfl rfl rfl (Y_index rfl rfl rfl el36 ti2 (Rd.isAt (hs0.rdRow (i := 0) rfl ⟨hi4962q, hv4965⟩) (at1 (ints_at hi4967q))) hi4967a hi4967b) ?_; clear hf; intro a hf
                      refine gY (i := 11) [] rfl (by kernel_rfl) (by kernel_rfl) hf hs0 rfl rfl rfl (Y_load_rd rfl rfl (fun w hs => hs.rdRow (i := 0) rfl ⟨hi4962q, hv4965⟩) (at1 (ints_at hi4967q)) ag2) ?_; clear hf; intro a hf
                      refine gY (i := 12) [] rfl (by kernel_rfl) (by kernel_rfl) hf hs0 rfl rfl rfl (Y_move rfl rfl) ?_; clear hf; intro a hf
                      refine gY (i := 13) [] rfl (by kernel_rfl) (by kernel_rfl) hf hs0 rfl rfl rfl (Y_move rfl rfl) ?_; clear hf; intro a hf
                      obtain ⟨q4968, hi4969, hm4917⟩ := bind_some hm4917
                      obtain ⟨hi4969a, hi4969b, hi4969q⟩ := idx_some hi4969
                      obtain ⟨A4970, c4971, hv4972⟩ := hs0.matRow (i := 0) rfl hi4969q
                      refine gY (i := 14) [] rfl (by kernel_rfl) (by kernel_rfl) hf hs0 rfl rfl rfl (Y_index rfl rfl rfl el34 ti36 (Rd.isAt (hs0.rdV (i := 0) rfl) hv4972) hi4969a (ltn hn4838 hi4969b)) ?_; clear hf; intro a hf
                      refine gY (i := 15) [] rfl (by kernel_rfl) (by kernel_rfl) hf hs0 rfl rfl rfl (Y_load_rd rfl rfl (fun w hs => hs.rdV (i := 0) rfl) (at1 hv4972) ag36) ?_; clear hf; intro a hf
                      refine gY (i := 16) [] rfl (by kernel_rfl) (by kernel_rfl) hf hs0 rfl rfl rfl (Y_move rfl rfl) ?_; clear hf; intro a hf
                      obtain ⟨q4973, hi4974, hm4917⟩ := bind_some hm4917
                      obtain ⟨hi4974a, hi4974b, hi4974q⟩ := idx_some hi4974
                      refine gY (i := 17) [] rfl (by kernel_rfl) (by kernel_rfl) hf hs0 rfl rfl rfl (Y_index rfl rfl rfl el36 ti2 (Rd.isAt (hs0.rdRow (i := 0) rfl ⟨hi4969q, hv4972⟩) (at1 (ints_at hi4974q))) hi4974a hi4974b) ?_; clear hf; intro a hf
                      refine gY (i := 18) [] rfl (by kernel_rfl) (by kernel_rfl) hf hs0 rfl rfl rfl (Y_load_rd rfl rfl (fun w hs => hs.rdRow (i := 0) rfl ⟨hi4969q, hv4972⟩) (at1 (ints_at hi4974q)) ag2) ?_; clear hf; intro a hf
                      refine gY (i := 19) [] rfl (by kernel_rfl) (by kernel_rfl) hf hs0 rfl rfl rfl (Y_move rfl rfl) ?_; clear hf; intro a hf
                      refine gY (i := 20) [] rfl (by kernel_rfl) (by kernel_rfl) hf hs0 rfl rfl rfl (Y_move rfl rfl) ?_; clear hf; intro a hf
                      obtain ⟨q4975, hi4976, hm4917⟩ := bind_some hm4917
                      obtain ⟨hi4976a, hi4976b, hi4976q⟩ := idx_some hi4976
                      obtain ⟨A4977, c4978, hv4979⟩ := hs0.matRow (i := 0) rfl hi4976q
                      refine gY (i := 21) [] rfl (by kernel_rfl) (by kernel_rfl) hf hs0 rfl rfl rfl (Y_index rfl rfl rfl el34 ti36 (Rd.isAt (hs0.rdV (i := 0) rfl) hv4979) hi4976a (ltn hn4838 hi4976b)) ?_; clear hf; intro a hf
                      refine gY (i := 22) [] rfl (by kernel_rfl) (by kernel_rfl) hf hs0 rfl rfl rfl (Y_load_rd rfl rfl (fun w hs => hs.rdV (i := 0) rfl) (at1 hv4979) ag36) ?_; clear hf; intro a hf
                      refine gY (i := 23) [] rfl (by kernel_rfl) (by kernel_rfl) hf hs0 rfl rfl rfl (Y_move rfl rfl) ?_; clear hf; intro a hf
                      obtain ⟨q4980, hi4981, hm4917⟩ := bind_some hm4917
                      obtain ⟨hi4981a, hi4981b, hi4981q⟩ := idx_some hi4981
                      refine gY (i := 24) [] rfl (by kernel_rfl) (by kernel_rfl) hf hs0 rfl rfl rfl (Y_index rfl rfl rfl el36 ti2 (Rd.isAt (hs0.rdRow (i := 0) rfl ⟨hi4976q, hv4979⟩) (at1 (ints_at hi4981q))) hi4981a hi4981b) ?_; clear hf; intro a hf
                      refine gY (i := 25) [] rfl (by kernel_rfl) (by kernel_rfl) hf hs0 rfl rfl rfl (Y_load_rd rfl rfl (fun w hs => hs.rdRow (i := 0) rfl ⟨hi4976q, hv4979⟩) (at1 (ints_at hi4981q)) ag2) ?_; clear hf; intro a hf
                      refine gRun (i := 26) rfl (by kernel_rfl) ?_
                      obtain ⟨r4982, hc4983, hm4917⟩ := bind_some hm4917
                      refine sCall hf rfl rfl rfl rfl (cap := []) rfl rfl en135 (impl_times_ok F q4973 q4980 _ _ hc4983) ?_; clear hf
                      rintro _ w ⟨rfl, hs1⟩ a hf
                      have hs : St [] W w [.mat A10 n11 c12 36 2 vs14 ms4837] := hs.ext hs1.below
                      clear hs1
                      have hs0 : St [] W w [.mat A10 n11 c12 36 2 vs14 ms4837] := hs
                      refine wpO_nil ⟨Or.inr hs0, ?_⟩
                      refine gY (i := 27) [] rfl (by kernel_rfl) (by kernel_rfl) hf hs0 rfl rfl rfl (Y_max rfl rfl rfl) ?_; clear hf; intro a hf
                      obtain ⟨q4984, hi4985, hm4917⟩ := bind_some hm4917
                      obtain ⟨hi4985a, hi4985b, hi4985q⟩ := idx_some hi4985
                      refine gY (i := 28) [] rfl (by kernel_rfl) (by kernel_rfl) hf hs0 rfl rfl rfl (Y_index rfl rfl rfl el36 ti2 (Rd.isAt (hs0.rdRow (i := 0) rfl ⟨hi4957q, hv4960⟩) (at1 (ints_at hi4985q))) hi4985a hi4985b) ?_; clear hf; intro a hf
                      refine gRun (i := 29) rfl (by kernel_rfl) ?_
                      obtain ⟨xs4986, hu4988, hm4917⟩ := bind_some hm4917
                      obtain ⟨ms4987, hu4989, hm4917⟩ := bind_some hm4917
                      refine sStoreM (i := 0) (k := x4375) hf hs rfl rfl rfl rfl rfl rfl hi4957q hv4960 rfl hu4988 hu4989 ti2 ?_; clear hs; intro w hs
                      obtain ⟨hq4990, hv4991⟩ := rowUpd hu4988 hu4989 hv4960
                      have hs : St [] W w [.mat A10 n11 c12 36 2 vs14 ms4987] := hs
                      refine wpO_nil ⟨Or.inl rfl, ?_⟩
                      refine gDone (by kernel_rfl) ?_
                      clear hs0
                      refine wpL_nil (Qb_normal ?_)
                      refine wpL_region ?_
                      refine sY hf hs rfl rfl rfl (Y_add rfl rfl rfl) ?_; clear hf; intro a hf
                      refine sY hf hs rfl rfl rfl (Y_move rfl rfl) ?_; clear hf; intro a hf
                      refine wpO_nil ?_
                      refine wpL_nil (Ql_normal ?_)
                      exact ⟨ms4987, (IntKind.i64.wrap (x4839 + 1)), hm4917, ((hn4838).trans (upd_len hu4989).symm), (Fr.pick (Fr.pick (Fr.pick (Fr.pick (Fr.pick (Fr.pick (Fr.pick (Fr.pick (Fr.pick hf.none hf rfl) hf rfl) hf rfl) hf rfl) hf rfl) hf rfl) hf rfl) hf rfl) hf rfl), hs⟩
                    · have hm4917 := bif_f hm4917 hb4919
                      refine wpL_exit (Ql_exit (Qb_exit ?_))
                      exact ⟨ms4837, Option.some.inj hm4917, hn4838, (Fr.pick (Fr.pick (Fr.pick (Fr.pick (Fr.pick (Fr.pick hf.none hf rfl) hf rfl) hf rfl) hf rfl) hf rfl) hf rfl), hs⟩
                · rintro a w ⟨ms4913, hr_, hn4914, hf, hs⟩
                  subst hr_
                  try dsimp only at hm4685
                  refine wpL_nil (Qb_normal ?_)
                  refine wpL_region ?_
                  refine sY hf hs rfl rfl rfl (Y_add rfl rfl rfl) ?_; clear hf; intro a hf
                  refine sY hf hs rfl rfl rfl (Y_move rfl rfl) ?_; clear hf; intro a hf
                  refine wpO_nil ?_
                  refine wpL_nil (Ql_normal ?_)
                  exact ⟨ms4913, (IntKind.i64.wrap (x4375 + 1)), hm4685, hn4914, (Fr.pick (Fr.pick (Fr.pick (Fr.pick (Fr.pick (Fr.pick hf.none hf rfl) hf rfl) hf rfl) hf rfl) hf rfl) hf rfl), hs⟩
              · have hm4685 := bif_f hm4685 hb4687
                refine wpL_exit (Ql_exit (Qb_exit ?_))
                exact ⟨ms4373, Option.some.inj hm4685, hn4374, (Fr.pick (Fr.pick (Fr.pick hf.none hf rfl) hf rfl) hf rfl), hs⟩
          · rintro a w ⟨ms4681, hr_, hn4682, hf, hs⟩
            subst hr_
            try dsimp only at hm3748
            refine wpL_nil (Qb_normal ?_)
            refine wpL_region ?_
            refine sY hf hs rfl rfl rfl (Y_add rfl rfl rfl) ?_; clear hf; intro a hf
            refine sY hf hs rfl rfl rfl (Y_move rfl rfl) ?_; clear hf; intro a hf
            refine wpO_nil ?_
            refine wpL_nil (Ql_normal ?_)
            exact ⟨ms4681, (IntKind.i64.wrap (x2502 + 1)), hm3748, hn4682, (Fr.pick (Fr.pick (Fr.pick hf.none hf rfl) hf rfl) hf rfl), hs⟩
      · have hm3748 := bif_f hm3748 hb3750
        refine wpL_exit (Ql_exit (Qb_exit ?_))
        exact ⟨ms2500, Option.some.inj hm3748, hn2501, (Fr.pick hf.none hf rfl), hs⟩
  · rintro a w ⟨ms3744, hr_, hn3745, hf, hs⟩
    subst hr_
    try dsimp only at hm
    refine wpL_seq ?_
    refine wpL_seq ?_
    refine wpL_region ?_
    refine sY hf hs rfl rfl rfl (Y_move rfl rfl) ?_; clear hf; intro a hf
    refine sY hf hs rfl rfl rfl (Y_lenH rfl rfl el34 hn3745) ?_; clear hf; intro a hf
    refine sY hf hs rfl rfl rfl (Y_move rfl rfl) ?_; clear hf; intro a hf
    refine wpO_nil ?_
    obtain ⟨r5021, hl5022, hm⟩ := bind_some hm
    refine wpL_block (fun a w => Sum.inr () = r5021 ∧ Fr a 84 [(4, .slice A10 n11 c12)] ∧ St [] W w [.mat A10 n11 c12 36 2 vs14 ms3744]) ?_ ?_
    · refine wpL_loop (fun n a w => ∃ x5011 : Int, impl_starOf_L22 F ms3744 n x5011 = some r5021 ∧ Fr a 84 [(4, .slice A10 n11 c12), (70, .int .i64 (ms3744.length : Int)), (71, .int .i64 x5011)] ∧ St [] W w [.mat A10 n11 c12 36 2 vs14 ms3744]) F ?_ ?_ ?_
      · exact ⟨0, hl5022, (Fr.pick (Fr.pick (Fr.pick hf.none hf rfl) hf rfl) hf rfl), hs⟩
      · rintro a w ⟨x5011, h0_, -, -⟩; simp [impl_starOf_L22] at h0_
      · rintro n5024 a w ⟨x5011, hm5023, hf, hs⟩
        rw [impl_starOf_L22] at hm5023
        refine wpL_seq ?_
        refine wpL_region ?_
        refine sY hf hs rfl rfl rfl (Y_lss rfl rfl rfl) ?_; clear hf; intro a hf
        refine wpO_nil ?_
        refine wpL_seq ?_
        refine wpL_cond hf rfl (fun hb5025 => ?_) (fun hb5025 => ?_)
        · have hm5023 := bif_t hm5023 hb5025
          refine wpL_skip ?_
          refine wpL_seq ?_
          refine wpL_block0 ?_
          refine wpL_seq ?_
          refine wpL_region ?_
          refine sY hf hs rfl rfl rfl (Y_move rfl rfl) ?_; clear hf; intro a hf
          refine sY hf hs rfl rfl rfl (Y_assign rfl rfl) ?_; clear hf; intro a hf
          refine wpO_nil ?_
          refine wpL_seq ?_
          refine wpL_region ?_
          refine sY hf hs rfl rfl rfl (Y_move rfl rfl) ?_; clear hf; intro a hf
          refine sY hf hs rfl rfl rfl (Y_move rfl rfl) ?_; clear hf; intro a hf
          obtain ⟨q5026, hi5027, hm5023⟩ := bind_some hm5023
          obtain ⟨hi5027a, hi5027b, hi5027q⟩ := idx_some hi5027
          obtain ⟨A5028, c5029, hv5030⟩ := hs.matRow (i := 0) rfl hi5027q
          refine sY hf hs rfl rfl rfl (Y_index rfl rfl rfl el34 ti36 (Rd.isAt (hs.rdV (i := 0) rfl) hv5030) hi5027a (ltn hn3745 hi5027b)) ?_; clear hf; intro a hf
          refine sY hf hs rfl rfl rfl (Y_load_rd rfl rfl (fun w hs => hs.rdV (i := 0) rfl) (at1 hv5030) ag36) ?_; clear hf; intro a hf
          refine sY hf hs rfl rfl rfl (Y_move rfl rfl) ?_; clear hf; intro a hf
          obtain ⟨q5031, hi5032, hm5023⟩ := bind_some hm5023
          obtain ⟨hi5032a, hi5032b, hi5032q⟩ := idx_some hi5032
          refine sY hf hs rfl rfl rfl (Y_index rfl rfl rfl el36 ti2 (Rd.isAt (hs.rdRow (i := 0) rfl ⟨hi5027q, hv5030⟩) (at1 (ints_at hi5032q))) hi5032a hi5032b) ?_; clear hf; intro a hf
          refine sY hf hs rfl rfl rfl (Y_load_rd rfl rfl (fun w hs => hs.rdRow (i := 0) rfl ⟨hi5027q, hv5030⟩) (at1 (ints_at hi5032q)) ag2) ?_; clear hf; intro a hf
          refine sY hf hs rfl rfl rfl (Y_gtr rfl rfl rfl) ?_; clear hf; intro a hf
          refine wpO_nil ?_
          refine wpL_cond hf rfl (fun hb5033 => ?_) (fun hb5033 => ?_)
          · have hm5023 := bif_t hm5023 hb5033
            refine wpL_seq ?_
            refine wpL_region ?_
            refine sY hf hs rfl rfl rfl (Y_assign rfl rfl) ?_; clear hf; intro a hf
            refine sY hf hs rfl rfl rfl (Y_assign rfl rfl) ?_; clear hf; intro a hf
            refine wpO_nil ?_
            have hs : St [] W _ [.mat A10 n11 c12 36 2 vs14 ms3744, .mat none 0 0 36 2 [] ([] : List (List Int))] := hs.addNilM 36 2
            obtain rfl := Option.some.inj hm5023
            try dsimp only at hm
            obtain rfl := Option.some.inj hm
            refine wpL_ret (Qb_ret (Ql_ret (Qb_ret (ret_tmp2 rfl hf rfl rfl ?_))))
            exact ⟨_, rfl, none, 0, 0, [], rfl, rfl, hs.sel [1] (by decide)⟩
          · have hm5023 := bif_f hm5023 hb5033
            refine wpL_skip ?_
            refine wpL_nil (Qb_normal ?_)
            refine wpL_region ?_
            refine sY hf hs rfl rfl rfl (Y_add rfl rfl rfl) ?_; clear hf; intro a hf
            refine sY hf hs rfl rfl rfl (Y_move rfl rfl) ?_; clear hf; intro a hf
            refine wpO_nil ?_
            refine wpL_nil (Ql_normal ?_)
            exact ⟨(IntKind.i64.wrap (x5011 + 1)), hm5023, (Fr.pick (Fr.pick (Fr.pick hf.none hf rfl) hf rfl) hf rfl), hs⟩
        · have hm5023 := bif_f hm5023 hb5025
          refine wpL_exit (Ql_exit (Qb_exit ?_))
          exact ⟨Option.some.inj hm5023, (Fr.pick hf.none hf rfl), hs⟩
    · rintro a w ⟨hr_, hf, hs⟩
      subst hr_
      try dsimp only at hm
      refine wpL_seq ?_
      refine wpL_region ?_
      refine sY hf hs rfl rfl rfl (Y_move rfl rfl) ?_; clear hf; intro a hf
      refine sY hf hs rfl rfl rfl (Y_assign rfl rfl) ?_; clear hf; intro a hf
      refine sY hf hs rfl rfl rfl (Y_assign rfl rfl) ?_; clear hf; intro a hf
      refine wpO_nil ?_
      obtain rfl := Option.some.inj hm
      refine wpL_ret (ret_tmp2 rfl hf rfl rfl ?_)
      exact ⟨_, rfl, A10, n11, c12, vs14, rfl, hn3745, hs⟩

set_option maxRecDepth 100000 in
theorem impl_timesVector_ok (F : Nat) (p0_a : List (List Int)) (A_p0_a_1 : Option Addr) (n_p0_a_1 c_p0_a_1 : Nat) (hn_p0_a_1 : n_p0_a_1 = p0_a.length) (p1_x : List Int) (A_p1_x_1 : Option Addr) (n_p1_x_1 c_p1_x_1 : Nat) (hn_p1_x_1 : n_p1_x_1 = p1_x.length) (r : List Int) (W : World) (hm : impl_timesVector F p0_a p1_x = some r) (h_p0_a_1 : RdM W A_p0_a_1 p0_a) (h_p1_x_1 : Rd W A_p1_x_1 (ints p1_x)) :
    Calls Try.prog 150 [.slice A_p0_a_1 n_p0_a_1 c_p0_a_1, .slice A_p1_x_1 n_p1_x_1 c_p1_x_1].toArray W fun e w' => ∃ v, e = .returned v ∧ ∃ A488, ∃ n489, ∃ c490, v = .slice A488 n489 c490 ∧ n489 = r.length ∧ St [] W w' [.row A488 n489 c490 2 1 (ints r)] := by
  subst hn_p0_a_1
  subst hn_p1_x_1
  unfold impl_timesVector at hm
  refine Calls.enter (N := 47) Try.func150 rfl rfl rfl (fun a hf => ?_)
  have hs := St.start W
  obtain ⟨w, hw_⟩ : ∃ w, w = W := ⟨W, rfl⟩
  clear hw_ w
  refine wpL_seq ?_
  refine wpL_region ?_
  refine sY hf hs rfl rfl rfl (Y_assign rfl rfl) ?_; clear hf; intro a hf
  refine wpO_nil ?_
  refine wpL_seq ?_
  refine wpL_region ?_
  refine sY hf hs rfl rfl rfl (Y_move rfl rfl) ?_; clear hf; intro a hf
  refine sY hf hs rfl rfl rfl (Y_lenH rfl rfl el34 rfl) ?_; clear hf; intro a hf
  obtain ⟨xs3, hk2, hm⟩ := bind_some hm
  refine sMakeL (enc := ints) hf hs rfl rfl rfl rfl rfl hk2 el36 ti2 rfl ints_made ?_; clear hf hs; intro a w A1 hs hf
  have hs : St [] W w [.row A1 xs3.length xs3.length 2 1 (ints xs3)] := hs
  refine sY hf hs rfl rfl rfl (Y_assign rfl rfl) ?_; clear hf; intro a hf
  refine wpO_nil ?_
  refine wpL_seq ?_
  refine wpL_seq ?_
  refine wpL_region ?_
  refine sY hf hs rfl rfl rfl (Y_move rfl rfl) ?_; clear hf; intro a hf
  refine sY hf hs rfl rfl rfl (Y_lenH rfl rfl el34 rfl) ?_; clear hf; intro a hf
  refine sY hf hs rfl rfl rfl (Y_move rfl rfl) ?_; clear hf; intro a hf
  refine wpO_nil ?_
  obtain ⟨r366, hl367, hm⟩ := bind_some hm
  refine wpL_block (fun a w => ∃ xs364 : List Int, xs364 = r366 ∧ xs3.length = xs364.length ∧ Fr a 47 [(5, .slice A1 xs3.length xs3.length)] ∧ St [] W w [.row A1 xs3.length xs3.length 2 1 (ints xs364)]) ?_ ?_
  · refine wpL_loop (fun n a w => ∃ xs243 : List Int, ∃ x245 : Int, impl_timesVector_L4 F p0_a p1_x n xs243 x245 = some r366 ∧ xs3.length = xs243.length ∧ Fr a 47 [(1, .slice A_p1_x_1 p1_x.length c_p1_x_1), (5, .slice A1 xs3.length xs3.length), (13, .slice A_p0_a_1 p0_a.length c_p0_a_1), (14, .int .i64 (p0_a.length : Int)), (15, .int .i64 x245)] ∧ St [] W w [.row A1 xs3.length xs3.length 2 1 (ints xs243)]) F ?_ ?_ ?_
    · exact ⟨xs3, 0, hl367, rfl, (Fr.pick (Fr.pick (Fr.pick (Fr.pick (Fr.pick hf.none hf rfl) hf rfl) hf rfl) hf rfl) hf rfl), hs⟩
    · rintro a w ⟨xs243, x245, h0_, -, -, -⟩; simp [impl_timesVector_L4] at h0_
    · rintro n369 a w ⟨xs243, x245, hm368, hn244, hf, hs⟩
      rw [impl_timesVector_L4] at hm368
      refine wpL_seq ?_
      refine wpL_region ?_
      refine sY hf hs rfl rfl rfl (Y_lss rfl rfl rfl) ?_; clear hf; intro a hf
      refine wpO_nil ?_
      refine wpL_seq ?_
      refine wpL_cond hf rfl (fun hb370 => ?_) (fun hb370 => ?_)
      · have hm368 := bif_t hm368 hb370
        refine wpL_skip ?_
        refine wpL_seq ?_
        refine wpL_block0 ?_
        refine wpL_seq ?_
        refine wpL_region ?_
        refine sY hf hs rfl rfl rfl (Y_move rfl rfl) ?_; clear hf; intro a hf
        obtain ⟨q371, hi372, hm368⟩ := bind_some hm368
        obtain ⟨hi372a, hi372b, hi372q⟩ := idx_some hi372
        obtain ⟨vs373, hv374, hr375⟩ := id h_p0_a_1
        obtain ⟨A376, c377, hv378, hR379⟩ := hr375 _ _ hi372q
        refine sY hf hs rfl rfl rfl (Y_index rfl rfl rfl el34 ti36 (Rd.isAt hv374 hv378) hi372a hi372b) ?_; clear hf; intro a hf
        refine sY hf hs rfl rfl rfl (Y_load_rd rfl rfl (fun w hs => hv374.at hs) (at1 hv378) ag36) ?_; clear hf; intro a hf
        refine sY hf hs rfl rfl rfl (Y_assign rfl rfl) ?_; clear hf; intro a hf
        refine sY hf hs rfl rfl rfl (Y_assign rfl rfl) ?_; clear hf; intro a hf
        refine wpO_nil ?_
        refine wpL_seq ?_
        refine wpL_region ?_
        refine sY hf hs rfl rfl rfl (Y_move rfl rfl) ?_; clear hf; intro a hf
        refine sY hf hs rfl rfl rfl (Y_move rfl rfl) ?_; clear hf; intro a hf
        obtain ⟨q380, hi381, hm368⟩ := bind_some hm368
        obtain ⟨hi381a, hi381b, hi381q⟩ := idx_some hi381
        refine sY hf hs rfl rfl rfl (Y_index rfl rfl rfl el36 ti2 (Rd.isAt (hs.rd (i := 0) rfl) (at1 (ints_at hi381q))) hi381a (ltn hn244 hi381b)) ?_; clear hf; intro a hf
        obtain ⟨xs382, hu383, hm368⟩ := bind_some hm368
        refine sStoreL (i := 0) (us := [.int .i64 (-1000000000000000)]) (enc := ints) hf hs rfl rfl rfl rfl rfl rfl hn244 hu383 ti2 rfl rfl rfl rfl rfl ints_len1 (ints_set (-1000000000000000)) ?_; clear hs; intro w hs
        have hs : St [] W w [.row A1 xs3.length xs3.length 2 1 (ints xs382)] := hs
        refine wpO_nil ?_
        refine wpL_seq ?_
        refine wpL_region ?_
        refine sY hf hs rfl rfl rfl (Y_move rfl rfl) ?_; clear hf; intro a hf
        refine sY hf hs rfl rfl rfl (Y_lenH rfl rfl el36 rfl) ?_; clear hf; intro a hf
        refine sY hf hs rfl rfl rfl (Y_move rfl rfl) ?_; clear hf; intro a hf
        refine wpO_nil ?_
        obtain ⟨r461, hl462, hm368⟩ := bind_some hm368
        refine wpL_block (fun a w => ∃ xs459 : List Int, xs459 = r461 ∧ xs3.length = xs459.length ∧ Fr a 47 [(1, .slice A_p1_x_1 p1_x.length c_p1_x_1), (5, .slice A1 xs3.length xs3.length), (13, .slice A_p0_a_1 p0_a.length c_p0_a_1), (14, .int .i64 (p0_a.length : Int)), (15, .int .i64 x245)] ∧ St [] W w [.row A1 xs3.length xs3.length 2 1 (ints xs459)]) ?_ ?_
        · refine wpL_loop (fun n a w => ∃ xs433 : List Int, ∃ x435 : Int, impl_timesVector_L5 F p1_x x245 q371 n xs433 x435 = some r461 ∧ xs3.length = xs433.length ∧ Fr a 47 [(1, .slice A_p1_x_1 p1_x.length c_p1_x_1), (5, .slice A1 xs3.length xs3.length), (6, .int .i64 x245), (13, .slice A_p0_a_1 p0_a.length c_p0_a_1), (14, .int .i64 (p0_a.length : Int)), (15, .int .i64 x245), (23, .slice A376 q371.length c377), (24, .int .i64 (q371.length : Int)), (25, .int .i64 x435)] ∧ St [] W w [.row A1 xs3.length xs3.length 2 1 (ints xs433)]) F ?_ ?_ ?_
          · exact ⟨xs382, 0, hl462, ((hn244).trans (upd_len hu383).symm), (Fr.pick (Fr.pick (Fr.pick (Fr.pick (Fr.pick (Fr.pick (Fr.pick (Fr.pick (Fr.pick hf.none hf rfl) hf rfl) hf rfl) hf rfl) hf rfl) hf rfl) hf rfl) hf rfl) hf rfl), hs⟩
          · rintro a w ⟨xs433, x435, h0_, -, -, -⟩; simp [impl_timesVector_L5] at h0_
          · rintro n464 a w ⟨xs433, x435, hm463, hn434, hf, hs⟩
            rw [impl_timesVector_L5] at hm463
            refine wpL_seq ?_
            refine wpL_region ?_
            refine sY hf hs rfl rfl rfl (Y_lss rfl rfl rfl) ?_; clear hf; intro a hf
            refine wpO_nil ?_
            refine wpL_seq ?_
            refine wpL_cond hf rfl (fun hb465 => ?_) (fun hb465 => ?_)
            · have hm463 := bif_t hm463 hb465
              refine wpL_skip ?_
              refine wpL_seq ?_
              refine wpL_block0 ?_
              refine wpL_seq ?_
              refine wpL_region ?_
              refine sY hf hs rfl rfl rfl (Y_move rfl rfl) ?_; clear hf; intro a hf
              obtain ⟨q466, hi467, hm463⟩ := bind_some hm463
              obtain ⟨hi467a, hi467b, hi467q⟩ := idx_some hi467
              refine sY hf hs rfl rfl rfl (Y_index rfl rfl rfl el36 ti2 (Rd.isAt (hR379.at hs) (at1 (ints_at hi467q))) hi467a hi467b) ?_; clear hf; intro a hf
              refine sY hf hs rfl rfl rfl (Y_load_rd rfl rfl (fun w hs => hR379.at hs) (at1 (ints_at hi467q)) ag2) ?_; clear hf; intro a hf
              refine sY hf hs rfl rfl rfl (Y_assign rfl rfl) ?_; clear hf; intro a hf
              refine sY hf hs rfl rfl rfl (Y_assign rfl rfl) ?_; clear hf; intro a hf
              refine wpO_nil ?_
              refine wpL_drawG [.row A1 xs3.length xs3.length 2 1 (ints xs433)] 14 (by kernel_rfl) hs ?_; clear hs; intro w hs
              have hs0 : St [] W w [.row A1 xs3.length xs3.length 2 1 (ints xs433)] := hs
              refine gY (i := 0) [] rfl (by kernel_rfl) (by kernel_rfl) hf hs0 rfl rfl rfl (Y_move rfl rfl) ?_; clear hf; intro a hf
              refine gY (i := 1) [] rfl (by kernel_rfl) (by kernel_rfl) hf hs0 rfl rfl rfl (Y_move rfl rfl) ?_; clear hf; intro a hf
              refine gY (i := 2) [] rfl (by kernel_rfl) (by kernel_rfl) hf hs0 rfl rfl rfl (Y_move rfl rfl) ?_; clear hf; intro a hf
              refine gY (i := 3) [] rfl (by kernel_rfl) (by kernel_rfl) hf hs0 rfl rfl rfl (Y_move rfl rfl) ?_; clear hf; intro a hf
              obtain ⟨q478, hi479, hm463⟩ := bind_some hm463
              obtain ⟨hi479a, hi479b, hi479q⟩ := idx_some hi479
              refine gY (i := 4) [] rfl (by kernel_rfl) (by kernel_rfl) hf hs0 rfl rfl rfl (Y_index rfl rfl rfl el36 ti2 (Rd.isAt (hs0.rd (i := 0) rfl) (at1 (ints_at hi479q))) hi479a (ltn hn434 hi479b)) ?_; clear hf; intro a hf
              refine gY (i := 5) [] rfl (by kernel_rfl) (by kernel_rfl) hf hs0 rfl rfl rfl (Y_load_rd rfl rfl (fun w hs => hs.rd (i := 0) rfl) (at1 (ints_at hi479q)) ag2) ?_; clear hf; intro a hf
              refine gY (i := 6) [] rfl (by kernel_rfl) (by kernel_rfl) hf hs0 rfl rfl rfl (Y_move rfl rfl) ?_; clear hf; intro a hf
              refine gY (i := 7) [] rfl (by kernel_rfl) (by kernel_rfl) hf hs0 rfl rfl rfl (Y_move rfl rfl) ?_; clear hf; intro a hf
              refine gY (i := 8) [] rfl (by kernel_rfl) (by kernel_rfl) hf hs0 rfl rfl rfl (Y_move rfl rfl) ?_; clear hf; intro a hf
              obtain ⟨q480, hi481, hm463⟩ := bind_some hm463
              obtain ⟨hi481a, hi481b, hi481q⟩ := idx_some hi481
              refine gY (i := 9) [] rfl (by kernel_rfl) (by kernel_rfl) hf hs0 rfl rfl rfl (Y_index rfl rfl rfl el36 ti2 (Rd.isAt (h_p1_x_1.at hs0) (at1 (ints_at hi481q))) hi481a hi481b) ?_; clear hf; intro a hf
              refine gY (i := 10) [] rfl (by kernel_rfl) (by kernel_rfl) hf hs0 rfl rfl rfl (Y_load_rd rfl rfl (fun w hs => h_p1_x_1.at hs) (at1 (ints_at hi481q)) ag2) ?_; clear hf; intro a hf
              refine gRun (i := 11) rfl (by kernel_rfl) ?_
              obtain ⟨r482, hc483, hm463⟩ := bind_some hm463
              refine sCall hf rfl rfl rfl rfl (cap := []) rfl rfl en135 (impl_times_ok F q466 q480 _ _ hc483) ?_; clear hf
              rintro _ w ⟨rfl, hs1⟩ a hf
              have hs : St [] W w [.row A1 xs3.length xs3.length 2 1 (ints xs433)] := hs.ext hs1.below
              clear hs1
              have hs0 : St [] W w [.row A1 xs3.length xs3.length 2 1 (ints xs433)] := hs
              refine wpO_nil ⟨Or.inr hs0, ?_⟩
              refine gY (i := 12) [] rfl (by kernel_rfl) (by kernel_rfl) hf hs0 rfl rfl rfl (Y_max rfl rfl rfl) ?_; clear hf; intro a hf
              obtain ⟨q484, hi485, hm463⟩ := bind_some hm463
              obtain ⟨hi485a, hi485b, hi485q⟩ := idx_some hi485
              refine gY (i := 13) [] rfl (by kernel_rfl) (by kernel_rfl) hf hs0 rfl rfl rfl (Y_index rfl rfl rfl el36 ti2 (Rd.isAt (hs0.rd (i := 0) rfl) (at1 (ints_at hi485q))) hi485a (ltn hn434 hi485b)) ?_; clear hf; intro a hf
              refine gRun (i := 14) rfl (by kernel_rfl) ?_
              obtain ⟨xs486, hu487, hm463⟩ := bind_some hm463
              refine sStoreL (i := 0) (us := [.int .i64 (max q478 r482)]) (enc := ints) hf hs rfl rfl rfl rfl rfl rfl hn434 hu487 ti2 rfl rfl rfl rfl rfl ints_len1 (ints_set (max q478 r482)) ?_; clear hs; intro w hs
              have hs : St [] W w [.row A1 xs3.length xs3.length 2 1 (ints xs486)] := hs
              refine wpO_nil ⟨Or.inl rfl, ?_⟩
              refine gDone (by kernel_rfl) ?_
              clear hs0
              refine wpL_nil (Qb_normal ?_)
              refine wpL_region ?_
              refine sY hf hs rfl rfl rfl (Y_add rfl rfl rfl) ?_; clear hf; intro a hf
              refine sY hf hs rfl rfl rfl (Y_move rfl rfl) ?_; clear hf; intro a hf
              refine wpO_nil ?_
              refine wpL_nil (Ql_normal ?_)
              exact ⟨xs486, (IntKind.i64.wrap (x435 + 1)), hm463, ((hn434).trans (upd_len hu487).symm), (Fr.pick (Fr.pick (Fr.pick (Fr.pick (Fr.pick (Fr.pick (Fr.pick (Fr.pick (Fr.pick hf.none hf rfl) hf rfl) hf rfl) hf rfl) hf rfl) hf rfl) hf rfl) hf rfl) hf rfl), hs⟩
            · have hm463 := bif_f hm463 hb465
              refine wpL_exit (Ql_exit (Qb_exit ?_))
              exact ⟨xs433, Option.some.inj hm463, hn434, (Fr.pick (Fr.pick (Fr.pick (Fr.pick (Fr.pick hf.none hf rfl) hf rfl) hf rfl) hf rfl) hf rfl), hs⟩
        · rintro a w ⟨xs459, hr_, hn460, hf, hs⟩
          subst hr_
          try dsimp only at hm368
          refine wpL_nil (Qb_normal ?_)
          refine wpL_region ?_
          refine sY hf hs rfl rfl rfl (Y_add rfl rfl rfl) ?_; clear hf; intro a hf
          refine sY hf hs rfl rfl rfl (Y_move rfl rfl) ?_; clear hf; intro a hf
          refine wpO_nil ?_
          refine wpL_nil (Ql_normal ?_)
          exact ⟨xs459, (IntKind.i64.wrap (x245 + 1)), hm368, hn460, (Fr.pick (Fr.pick (Fr.pick (Fr.pick (Fr.pick hf.none hf rfl) hf rfl) hf rfl) hf rfl) hf rfl), hs⟩
      · have hm368 := bif_f hm368 hb370
        refine wpL_exit (Ql_exit (Qb_exit ?_))
        exact ⟨xs243, Option.some.inj hm368, hn244, (Fr.pick hf.none hf rfl), hs⟩
  · rintro a w ⟨xs364, hr_, hn365, hf, hs⟩
    subst hr_
    try dsimp only at hm
    refine wpL_seq ?_
    refine wpL_region ?_
    refine sY hf hs rfl rfl rfl (Y_move rfl rfl) ?_; clear hf; intro a hf
    refine sY hf hs rfl rfl rfl (Y_assign rfl rfl) ?_; clear hf; intro a hf
    refine wpO_nil ?_
    obtain rfl := Option.some.inj hm
    refine wpL_ret (ret_tmp rfl hf rfl ?_)
    exact ⟨_, rfl, A1, xs3.length, xs3.length, rfl, hn365, hs⟩

set_option maxRecDepth 100000 in
theorem impl_transposed_c1_ok (F : Nat) (p0_i : Int) (p1_j : Int) (b_z0 : Nat) (z0 : List (List Int)) (A_z0_1 : Option Addr) (n_z0_1 c_z0_1 : Nat) (hn_z0_1 : n_z0_1 = z0.length) (r : Int) (W : World) (hm : impl_transposed_c1 F p0_i p1_j z0 = some r) (h_z0_1 : RdM W A_z0_1 z0) (h_z0 : PB W b_z0 34 [.slice A_z0_1 n_z0_1 c_z0_1]) :
    Calls Try.prog 175 [.int .i64 p0_i, .int .i64 p1_j, .pointer (some ⟨b_z0, 0, none⟩)].toArray W fun e w' => ∃ v, e = .returned v ∧ v = .int .i64 r ∧ St [] W w' [] := by
  subst hn_z0_1
  unfold impl_transposed_c1 at hm
  refine Calls.enter (N := 13) Try.func175 rfl rfl rfl (fun a hf => ?_)
  have hs := St.start W
  obtain ⟨w, hw_⟩ : ∃ w, w = W := ⟨W, rfl⟩
  clear hw_ w
  refine wpL_seq ?_
  refine wpL_region ?_
  refine sY hf hs rfl rfl rfl (Y_assign rfl rfl) ?_; clear hf; intro a hf
  refine wpO_nil ?_
  refine wpL_seq ?_
  refine wpL_region ?_
  refine sY hf hs rfl rfl rfl (Y_load_pb rfl rfl h_z0 rfl ag34) ?_; clear hf; intro a hf
  refine sY hf hs rfl rfl rfl (Y_move rfl rfl) ?_; clear hf; intro a hf
  obtain ⟨q1, hi2, hm⟩ := bind_some hm
  obtain ⟨hi2a, hi2b, hi2q⟩ := idx_some hi2
  obtain ⟨vs3, hv4, hr5⟩ := id h_z0_1
  obtain ⟨A6, c7, hv8, hR9⟩ := hr5 _ _ hi2q
  refine sY hf hs rfl rfl rfl (Y_index rfl rfl rfl el34 ti36 (Rd.isAt hv4 hv8) hi2a hi2b) ?_; clear hf; intro a hf
  refine sY hf hs rfl rfl rfl (Y_load_rd rfl rfl (fun w hs => hv4.at hs) (at1 hv8) ag36) ?_; clear hf; intro a hf
  refine sY hf hs rfl rfl rfl (Y_move rfl rfl) ?_; clear hf; intro a hf
  obtain ⟨q10, hi11, hm⟩ := bind_some hm
  obtain ⟨hi11a, hi11b, hi11q⟩ := idx_some hi11
  refine sY hf hs rfl rfl rfl (Y_index rfl rfl rfl el36 ti2 (Rd.isAt (hR9.at hs) (at1 (ints_at hi11q))) hi11a hi11b) ?_; clear hf; intro a hf
  refine sY hf hs rfl rfl rfl (Y_load_rd rfl rfl (fun w hs => hR9.at hs) (at1 (ints_at hi11q)) ag2) ?_; clear hf; intro a hf
  refine sY hf hs rfl rfl rfl (Y_assign rfl rfl) ?_; clear hf; intro a hf
  refine wpO_nil ?_
  obtain rfl := Option.some.inj hm
  refine wpL_ret (ret_tmp rfl hf rfl ?_)
  exact ⟨_, rfl, rfl, hs⟩

set_option maxRecDepth 100000 in
theorem impl_transposed_ok (F : Nat) (p0_a : List (List Int)) (A_p0_a_1 : Option Addr) (n_p0_a_1 c_p0_a_1 : Nat) (hn_p0_a_1 : n_p0_a_1 = p0_a.length) (r : List (List Int)) (W : World) (hm : impl_transposed F p0_a = some r) (h_p0_a_1 : RdM W A_p0_a_1 p0_a) :
    Calls Try.prog 151 [.slice A_p0_a_1 n_p0_a_1 c_p0_a_1].toArray W fun e w' => ∃ v, e = .returned v ∧ ∃ A34, ∃ n35, ∃ c36, ∃ vs38, v = .slice A34 n35 c36 ∧ n35 = r.length ∧ St [] W w' [.mat A34 n35 c36 36 2 vs38 r] := by
  subst hn_p0_a_1
  unfold impl_transposed at hm
  refine Calls.enter (N := 11) Try.func151 rfl rfl rfl (fun a hf => ?_)
  have hs := St.start W
  obtain ⟨w, hw_⟩ : ∃ w, w = W := ⟨W, rfl⟩
  clear hw_ w
  refine wpL_seq ?_
  refine wpL_region ?_
  refine sBox hf hs rfl rfl rfl rfl rfl (cs := [.slice A_p0_a_1 p0_a.length c_p0_a_1]) rfl ?_; clear hf hs; intro a w b1 hs hf
  have hs : St [] W w [.blk b1 34 [.slice A_p0_a_1 p0_a.length c_p0_a_1]] := hs
  refine sY hf hs rfl rfl rfl (Y_assign rfl rfl) ?_; clear hf; intro a hf
  refine wpO_nil ?_
  refine wpL_seq ?_
  refine wpL_drawG [.blk b1 34 [.slice A_p0_a_1 p0_a.length c_p0_a_1]] 9 (by kernel_rfl) hs ?_; clear hs; intro w hs
  have hs0 : St [] W w [.blk b1 34 [.slice A_p0_a_1 p0_a.length c_p0_a_1]] := hs
  refine gY (i := 0) [] rfl (by kernel_rfl) (by kernel_rfl) hf hs0 rfl rfl rfl (Y_load_blk rfl rfl (i := 0) rfl rfl ag34) ?_; clear hf; intro a hf
  obtain ⟨q18, hi19, hm⟩ := bind_some hm
  obtain ⟨hi19a, hi19b, hi19q⟩ := idx_some hi19
  obtain ⟨vs20, hv21, hr22⟩ := id h_p0_a_1
  obtain ⟨A23, c24, hv25, hR26⟩ := hr22 _ _ hi19q
  refine gY (i := 1) [] rfl (by kernel_rfl) (by kernel_rfl) hf hs0 rfl rfl rfl (Y_index rfl rfl rfl el34 ti36 (Rd.isAt hv21 hv25) hi19a hi19b) ?_; clear hf; intro a hf
  refine gY (i := 2) [] rfl (by kernel_rfl) (by kernel_rfl) hf hs0 rfl rfl rfl (Y_load_rd rfl rfl (fun w hs => hv21.at hs) (at1 hv25) ag36) ?_; clear hf; intro a hf
  refine gY (i := 3) [] rfl (by kernel_rfl) (by kernel_rfl) hf hs0 rfl rfl rfl (Y_lenH rfl rfl el36 rfl) ?_; clear hf; intro a hf
  refine gY (i := 4) [] rfl (by kernel_rfl) (by kernel_rfl) hf hs0 rfl rfl rfl (Y_load_blk rfl rfl (i := 0) rfl rfl ag34) ?_; clear hf; intro a hf
  refine gY (i := 5) [] rfl (by kernel_rfl) (by kernel_rfl) hf hs0 rfl rfl rfl (Y_lenH rfl rfl el34 rfl) ?_; clear hf; intro a hf
  refine gY (i := 6) [] rfl (by kernel_rfl) (by kernel_rfl) hf hs0 rfl rfl rfl (Y_makeFunc (us := []) (vs := [.pointer (some ⟨b1, 0, none⟩)]) rfl rfl rfl) ?_; clear hf; intro a hf
  refine gRun (i := 7) rfl (by kernel_rfl) ?_
  obtain ⟨r27, hc28, hm⟩ := bind_some hm
  refine sCall hf rfl rfl rfl rfl (cap := []) rfl rfl en168 (impl_matrixBy_ok F (q18.length : Int) (p0_a.length : Int) (fun x0 x1 => impl_transposed_c1 F x0 x1 p0_a) 175 ([.pointer (some ⟨b1, 0, none⟩)]) _ _ hc28 (fun x0 x1 r w' hm_ hb => impl_transposed_c1_ok F x0 x1 b1 p0_a A_p0_a_1 p0_a.length c_p0_a_1 rfl r w' hm_ ((h_p0_a_1.at hs).below hb (Nat.le_refl _)) ((hs.pb (i := 0) rfl).below hb (Nat.le_refl _))) en175) ?_; clear hf
  rintro _ w ⟨A29, n30, c31, vs33, rfl, hn32, hs1⟩ a hf
  have hs : St [] W w [.blk b1 34 [.slice A_p0_a_1 p0_a.length c_p0_a_1], .mat A29 n30 c31 36 2 vs33 r27] := hs.join hs1
  clear hs1
  have hs0 : St [] W w [.blk b1 34 [.slice A_p0_a_1 p0_a.length c_p0_a_1]] := hs.sel [0] (by decide)
  refine wpO_nil ⟨Or.inr hs0, ?_⟩
  refine gY (i := 8) [] rfl (by kernel_rfl) (by kernel_rfl) hf hs0 rfl rfl rfl (Y_assign rfl rfl) ?_; clear hf; intro a hf
  refine gDone (by kernel_rfl) ?_
  clear hs0
  obtain rfl := Option.some.inj hm
  refine wpL_ret (ret_tmp rfl hf rfl ?_)
  exact ⟨_, rfl, A29, n30, c31, vs33, rfl, hn32, hs.sel [1] (by decide)⟩

set_option maxRecDepth 100000 in
theorem impl_solveTask_ok (F : Nat) (p0 : List GWindow) (A_p0_1 : Option Addr) (n_p0_1 c_p0_1 : Nat) (hn_p0_1 : n_p0_1 = p0.length) (p1 : List GBond) (A_p1_1 : Option Addr) (n_p1_1 c_p1_1 : Nat) (hn_p1_1 : n_p1_1 = p1.length) (r : List Int × List Int × Int) (W : World) (hm : impl_solveTask F p0 p1 = some r) (h_p0_1 : Rd W A_p0_1 ((recs GWindow.cells) p0)) (h_p1_1 : Rd W A_p1_1 ((recs GBond.cells) p1)) :
    Calls Try.prog 111 [.slice A_p0_1 n_p0_1 c_p0_1, .slice A_p1_1 n_p1_1 c_p1_1].toArray W fun e w' => ∃ v, e = .returned v ∧ ∃ A598, ∃ n599, ∃ c600, ∃ A602, ∃ n603, ∃ c604, v = .tuple #[.slice A598 n599 c600, .slice A602 n603 c604, .int .i64 r.2.2] ∧ n599 = r.1.length ∧ n603 = r.2.1.length ∧ St [] W w' [.row A598 n599 c600 2 1 (ints r.1), .row A602 n603 c604 2 1 (ints r.2.1)] := by
  subst hn_p0_1
  subst hn_p1_1
  unfold impl_solveTask at hm
  refine Calls.enter (N := 80) Try.func111 rfl rfl rfl (fun a hf => ?_)
  have hs := St.start W
  obtain ⟨w, hw_⟩ : ∃ w, w = W := ⟨W, rfl⟩
  clear hw_ w
  refine wpL_seq ?_
  refine wpL_region ?_
  refine sY hf hs rfl rfl rfl (Y_assign rfl rfl) ?_; clear hf; intro a hf
  refine sY hf hs rfl rfl rfl (Y_assign rfl rfl) ?_; clear hf; intro a hf
  refine sY hf hs rfl rfl rfl (Y_assign rfl rfl) ?_; clear hf; intro a hf
  refine wpO_nil ?_
  refine wpL_seq ?_
  refine wpL_seq ?_
  refine wpL_region ?_
  refine sY hf hs rfl rfl rfl (Y_move rfl rfl) ?_; clear hf; intro a hf
  refine sY hf hs rfl rfl rfl (Y_move rfl rfl) ?_; clear hf; intro a hf
  obtain ⟨r1, hc2, hm⟩ := bind_some hm
  refine sCall hf rfl rfl rfl rfl (cap := []) rfl rfl en97 (impl_IsTask_ok F p0 A_p0_1 p0.length c_p0_1 rfl p1 A_p1_1 p1.length c_p1_1 rfl _ _ hc2 (h_p0_1.at hs) (h_p1_1.at hs)) ?_; clear hf
  rintro _ w ⟨rfl, hs1⟩ a hf
  have hs : St [] W w [] := hs.ext hs1.below
  clear hs1
  refine sY hf hs rfl rfl rfl (Y_not rfl rfl) ?_; clear hf; intro a hf
  refine wpO_nil ?_
  refine wpL_cond hf rfl (fun hb3 => ?_) (fun hb3 => ?_)
  · have hm := bif_t hm hb3
    refine wpL_seq ?_
    refine wpL_region ?_
    refine sY hf hs rfl rfl rfl (Y_assign rfl rfl) ?_; clear hf; intro a hf
    refine sY hf hs rfl rfl rfl (Y_assign rfl rfl) ?_; clear hf; intro a hf
    refine sY hf hs rfl rfl rfl (Y_assign rfl rfl) ?_; clear hf; intro a hf
    refine wpO_nil ?_
    have hs : St [] W _ [.row none 0 0 2 1 (ints ([] : List Int))] := hs.addNil 2 1
    have hs : St [] W _ [.row none 0 0 2 1 (ints ([] : List Int)), .row none 0 0 2 1 (ints ([] : List Int))] := hs.addNil 2 1
    obtain rfl := Option.some.inj hm
    refine wpL_ret (ret_tmp3 rfl hf rfl rfl rfl ?_)
    exact ⟨_, rfl, none, 0, 0, none, 0, 0, rfl, rfl, rfl, hs⟩
  · have hm := bif_f hm hb3
    refine wpL_skip ?_
    refine wpL_seq ?_
    refine wpL_region ?_
    refine sY hf hs rfl rfl rfl (Y_move rfl rfl) ?_; clear hf; intro a hf
    refine sY hf hs rfl rfl rfl (Y_move rfl rfl) ?_; clear hf; intro a hf
    obtain ⟨r6, hc7, hm⟩ := bind_some hm
    refine sCall hf rfl rfl rfl rfl (cap := []) rfl rfl en98 (impl_bondMatrix_ok F p0 A_p0_1 p0.length c_p0_1 rfl p1 A_p1_1 p1.length c_p1_1 rfl _ _ hc7 (h_p0_1.at hs) (h_p1_1.at hs)) ?_; clear hf
    rintro _ w ⟨A8, n9, c10, vs12, rfl, hn11, hs1⟩ a hf
    have hs : St [] W w [.mat A8 n9 c10 36 2 vs12 r6] := hs.join hs1
    clear hs1
    obtain ⟨r13, hc14, hm⟩ := bind_some hm
    refine sCall hf rfl rfl rfl rfl (cap := []) rfl rfl en83 (impl_starOf_ok F r6 A8 n9 c10 hn11 _ _ hc14 (hs.rdM (i := 0) rfl)) ?_; clear hf
    rintro _ w ⟨A15, n16, c17, vs19, rfl, hn18, hs1⟩ a hf
    have hs : St [] W w [.mat A8 n9 c10 36 2 vs12 r6, .mat A15 n16 c17 36 2 vs19 r13.1] := hs.join hs1
    clear hs1
    refine sY hf hs rfl rfl rfl (Y_move rfl rfl) ?_; clear hf; intro a hf
    refine sY hf hs rfl rfl rfl (Y_extract rfl rfl rfl) ?_; clear hf; intro a hf
    refine sY hf hs rfl rfl rfl (Y_extract rfl rfl rfl) ?_; clear hf; intro a hf
    refine sY hf hs rfl rfl rfl (Y_assign rfl rfl) ?_; clear hf; intro a hf
    refine sY hf hs rfl rfl rfl (Y_assign rfl rfl) ?_; clear hf; intro a hf
    refine wpO_nil ?_
    refine wpL_seq ?_
    refine wpL_seq ?_
    refine wpL_region ?_
    refine sY hf hs rfl rfl rfl (Y_move rfl rfl) ?_; clear hf; intro a hf
    refine sY hf hs rfl rfl rfl (Y_not rfl rfl) ?_; clear hf; intro a hf
    refine wpO_nil ?_
    refine wpL_cond hf rfl (fun hb20 => ?_) (fun hb20 => ?_)
    · have hm := bif_t hm hb20
      refine wpL_seq ?_
      refine wpL_region ?_
      refine sY hf hs rfl rfl rfl (Y_assign rfl rfl) ?_; clear hf; intro a hf
      refine sY hf hs rfl rfl rfl (Y_assign rfl rfl) ?_; clear hf; intro a hf
      refine sY hf hs rfl rfl rfl (Y_assign rfl rfl) ?_; clear hf; intro a hf
      refine wpO_nil ?_
      have hs : St [] W _ [.mat A8 n9 c10 36 2 vs12 r6, .mat A15 n16 c17 36 2 vs19 r13.1, .row none 0 0 2 1 (ints ([] : List Int))] := hs.addNil 2 1
      have hs : St [] W _ [.mat A8 n9 c10 36 2 vs12 r6, .mat A15 n16 c17 36 2 vs19 r13.1, .row none 0 0 2 1 (ints ([] : List Int)), .row none 0 0 2 1 (ints ([] : List Int))] := hs.addNil 2 1
      obtain rfl := Option.some.inj hm
      refine wpL_ret (ret_tmp3 rfl hf rfl rfl rfl ?_)
      exact ⟨_, rfl, none, 0, 0, none, 0, 0, rfl, rfl, rfl, hs.sel [2, 3] (by decide)⟩
    · have hm := bif_f hm hb20
      refine wpL_skip ?_
      refine wpL_seq ?_
      refine wpL_region ?_
      refine sY hf hs rfl rfl rfl (Y_assign rfl rfl) ?_; clear hf; intro a hf
      refine sY hf hs rfl rfl rfl (Y_assign rfl rfl) ?_; clear hf; intro a hf
      refine wpO_nil ?_
      refine wpL_seq ?_
      refine wpL_seq ?_
      refine wpL_region ?_
      refine sY hf hs rfl rfl rfl (Y_move rfl rfl) ?_; clear hf; intro a hf
      refine sY hf hs rfl rfl rfl (Y_lenH rfl rfl el53 rfl) ?_; clear hf; intro a hf
      refine sY hf hs rfl rfl rfl (Y_move rfl rfl) ?_; clear hf; intro a hf
      refine wpO_nil ?_
      obtain ⟨r399, hl400, hm⟩ := bind_some hm
      have hs : St [] W _ [.mat A8 n9 c10 36 2 vs12 r6, .mat A15 n16 c17 36 2 vs19 r13.1, .row none 0 0 2 1 (ints ([] : List Int))] := hs.addNil 2 1
      have hs : St [] W _ [.mat A8 n9 c10 36 2 vs12 r6, .mat A15 n16 c17 36 2 vs19 r13.1, .row none 0 0 2 1 (ints ([] : List Int)), .row none 0 0 2 1 (ints ([] : List Int))] := hs.addNil 2 1
      refine wpL_block (fun a w => ∃ xs389 : List Int, ∃ xs394 : List Int, ∃ A390, ∃ n391, ∃ c392, ∃ A395, ∃ n396, ∃ c397, (xs389, xs394) = r399 ∧ n391 = xs389.length ∧ n396 = xs394.length ∧ Fr a 80 [(0, .slice A_p0_1 p0.length c_p0_1), (7, .slice A15 n16 c17), (9, .slice A390 n391 c392), (10, .slice A395 n396 c397)] ∧ St [] W w [.mat A15 n16 c17 36 2 vs19 r13.1, .row A390 n391 c392 2 1 (ints xs389), .row A395 n396 c397 2 1 (ints xs394)]) ?_ ?_
      · refine wpL_loop (fun n a w => ∃ xs269 : List Int, ∃ xs275 : List Int, ∃ x280 : Int, ∃ A270, ∃ n271, ∃ c272, ∃ A276, ∃ n277, ∃ c278, impl_solveTask_L1 F p0 n xs269 xs275 x280 = some r399 ∧ n271 = xs269.length ∧ n277 = xs275.length ∧ Fr a 80 [(0, .slice A_p0_1 p0.length c_p0_1), (7, .slice A15 n16 c17), (9, .slice A270 n271 c272), (10, .slice A276 n277 c278), (30, .slice A_p0_1 p0.length c_p0_1), (31, .int .i64 (p0.length : Int)), (32, .int .i64 x280)] ∧ St [] W w [.mat A15 n16 c17 36 2 vs19 r13.1, .row A270 n271 c272 2 1 (ints xs269), .row A276 n277 c278 2 1 (ints xs275)]) F ?_ ?_ ?_
        · exact ⟨([] : List Int), ([] : List Int), 0, none, 0, 0, none, 0, 0, hl400, rfl, rfl, (Fr.pick (Fr.pick (Fr.pick (Fr.pick (Fr.pick (Fr.pick (Fr.pick hf.none hf rfl) hf rfl) hf rfl) hf rfl) hf rfl) hf rfl) hf rfl), hs.sel [1, 2, 3] (by decide)⟩
        · rintro a w ⟨xs269, xs275, x280, A270, n271, c272, A276, n277, c278, h0_, -, -, -, -⟩; simp [impl_solveTask_L1] at h0_
        · rintro n402 a w ⟨xs269, xs275, x280, A270, n271, c272, A276, n277, c278, hm401, hn273, hn279, hf, hs⟩
          rw [impl_solveTask_L1] at hm401
          refine wpL_seq ?_
          refine wpL_region ?_
          refine sY hf hs rfl rfl rfl (Y_lss rfl rfl rfl) ?_; clear hf; intro a hf
          refine wpO_nil ?_
          refine wpL_seq ?_
          refine wpL_cond hf rfl (fun hb403 => ?_) (fun hb403 => ?_)
          · have hm401 := bif_t hm401 hb403
            refine wpL_skip ?_
            refine wpL_seq ?_
            refine wpL_block0 ?_
            refine wpL_seq ?_
            refine wpL_region ?_
            obtain ⟨q404, hi405, hm401⟩ := bind_some hm401
            obtain ⟨hi405a, hi405b, hi405q⟩ := idx_some hi405
            refine sY hf hs rfl rfl rfl (Y_index rfl rfl rfl el53 ti103 (Rd.isAt (h_p0_1.at hs) (recs_at (s := 2) GWindow.len hi405q (j := 0) rfl)) hi405a hi405b) ?_; clear hf; intro a hf
            refine sY hf hs rfl rfl rfl (Y_load_rdS rfl rfl (us := [.int .i64 q404.Low, .int .i64 q404.High]) (fun w hs => h_p0_1.at hs) (fun j u hj => recs_at (s := 2) GWindow.len hi405q hj) (Nat.succ_pos _) ag103 ti103 rfl) ?_; clear hf; intro a hf
            refine sAlloc hf hs rfl rfl rfl rfl ti103 ?_; clear hf hs; intro a w b406 hs hf
            have hs : St [] W w [.mat A15 n16 c17 36 2 vs19 r13.1, .row A270 n271 c272 2 1 (ints xs269), .row A276 n277 c278 2 1 (ints xs275), .blk b406 103 [.int .i64 0, .int .i64 0]] := hs
            refine sStore (i := 3) (us := [.int .i64 q404.Low, .int .i64 q404.High]) hf hs rfl rfl rfl rfl rfl rfl ti103 rfl rfl rfl (Nat.le_of_ble_eq_true rfl) rfl ?_; clear hs; intro w hs
            have hs : St [] W w [.mat A15 n16 c17 36 2 vs19 r13.1, .row A270 n271 c272 2 1 (ints xs269), .row A276 n277 c278 2 1 (ints xs275), .blk b406 103 [.int .i64 q404.Low, .int .i64 q404.High]] := hs
            refine wpO_nil ?_
            obtain ⟨r463, hj464, hm401⟩ := bind_some hm401
            refine wpL_cut (fun a w => ∃ xs453 : List Int, ∃ xs458 : List Int, ∃ A454, ∃ n455, ∃ c456, ∃ A459, ∃ n460, ∃ c461, (xs453, xs458) = r463 ∧ n455 = xs453.length ∧ n460 = xs458.length ∧ Fr a 80 [(0, .slice A_p0_1 p0.length c_p0_1), (7, .slice A15 n16 c17), (9, .slice A454 n455 c456), (10, .slice A459 n460 c461), (30, .slice A_p0_1 p0.length c_p0_1), (31, .int .i64 (p0.length : Int)), (32, .int .i64 x280)] ∧ St [] W w [.mat A15 n16 c17 36 2 vs19 r13.1, .row A454 n455 c456 2 1 (ints xs453), .row A459 n460 c461 2 1 (ints xs458)]) ?_ ?_
            · refine wpL_drawG [.mat A15 n16 c17 36 2 vs19 r13.1, .blk b406 103 [.int .i64 q404.Low, .int .i64 q404.High]] 13 (by kernel_rfl) hs ?_; clear hs; intro w hs
              have hs0 : St [] W w [.mat A15 n16 c17 36 2 vs19 r13.1, .blk b406 103 [.int .i64 q404.Low, .int .i64 q404.High]] := hs.sel [0, 3] (by decide)
              refine gY (i := 0) [] rfl (by kernel_rfl) (by kernel_rfl) hf hs0 rfl rfl rfl (Y_move rfl rfl) ?_; clear hf; intro a hf
              refine gY (i := 1) [] rfl (by kernel_rfl) (by kernel_rfl) hf hs0 rfl rfl rfl (Y_fieldAddr rfl rfl fo103_0) ?_; clear hf; intro a hf
              refine gY (i := 2) [] rfl (by kernel_rfl) (by kernel_rfl) hf hs0 rfl rfl rfl (Y_load_blk rfl rfl (i := 1) rfl rfl ag2) ?_; clear hf; intro a hf
              refine gY (i := 5) [] rfl (by kernel_rfl) (by kernel_rfl) hf hs0 rfl rfl rfl (Y_move rfl rfl) ?_; clear hf; intro a hf
              refine gY (i := 6) [] rfl (by kernel_rfl) (by kernel_rfl) hf hs0 rfl rfl rfl (Y_fieldAddr rfl rfl fo103_1) ?_; clear hf; intro a hf
              refine gY (i := 7) [] rfl (by kernel_rfl) (by kernel_rfl) hf hs0 rfl rfl rfl (Y_load_blk rfl rfl (i := 1) rfl rfl ag2) ?_; clear hf; intro a hf
              refine gY (i := 8) [] rfl (by kernel_rfl) (by kernel_rfl) hf hs0 rfl rfl rfl (Y_neg rfl rfl) ?_; clear hf; intro a hf
              refine gRun2 (i := 3) (j := 9) rfl rfl (by kernel_rfl) ?_ ?_
              · refine sBuildSlice (parts := [(0, .tmp 38)]) (vs := [.int .i64 q404.Low]) (cells := [.int .i64 q404.Low]) hf hs rfl rfl rfl rfl rfl el36 ti2 rfl rfl rfl rfl ?_; clear hf hs; intro a w A477 hs hA478 hf
                have hs : St [] W w [.mat A15 n16 c17 36 2 vs19 r13.1, .row A270 n271 c272 2 1 (ints xs269), .row A276 n277 c278 2 1 (ints xs275), .blk b406 103 [.int .i64 q404.Low, .int .i64 q404.High], .row A477 1 1 2 1 (ints ([q404.Low]))] := hs
                have hs0 : St [] W w [.mat A15 n16 c17 36 2 vs19 r13.1, .blk b406 103 [.int .i64 q404.Low, .int .i64 q404.High]] := hs.sel [0, 3] (by decide)
                refine wpO_nil ⟨Or.inr hs0, ?_⟩
                refine gRun2 (i := 4) (j := 9) rfl rfl (by kernel_rfl) ?_ ?_
                · obtain ⟨xs481, ha482, hj464⟩ := bind_some hj464
                  refine sAppendL (i := 1) (xs := xs269) (ys := [q404.Low]) (enc := ints) hf hs rfl rfl rfl rfl rfl rfl hn273 rfl rfl ha482 el36 ti2 rfl rfl rfl (hs.rd (i := 4) rfl) (Nat.succ_pos _) ints_len1 ints_append ints_one ?_; clear hf hs; intro a w A479 c480 hs hf
                  have hs : St [] W w [.mat A15 n16 c17 36 2 vs19 r13.1, .row A479 xs481.length c480 2 1 (ints xs481), .row A276 n277 c278 2 1 (ints xs275), .blk b406 103 [.int .i64 q404.Low, .int .i64 q404.High], .row A477 1 1 2 1 (ints ([q404.Low]))] := hs
                  have hs0 : St [] W w [.mat A15 n16 c17 36 2 vs19 r13.1, .blk b406 103 [.int .i64 q404.Low, .int .i64 q404.High]] := hs.sel [0, 3] (by decide)
                  refine wpO_nil ⟨Or.inr hs0, ?_⟩
                  refine gRun (i := 9) rfl (by kernel_rfl) ?_
                  refine sBuildSlice (parts := [(0, .tmp 44)]) (vs := [.int .i64 (IntKind.i64.wrap (0 - q404.High))]) (cells := [.int .i64 (IntKind.i64.wrap (0 - q404.High))]) hf hs rfl rfl rfl rfl rfl el36 ti2 rfl rfl rfl rfl ?_; clear hf hs; intro a w A483 hs hA484 hf
                  have hs : St [] W w [.mat A15 n16 c17 36 2 vs19 r13.1, .row A479 xs481.length c480 2 1 (ints xs481), .row A276 n277 c278 2 1 (ints xs275), .blk b406 103 [.int .i64 q404.Low, .int .i64 q404.High], .row A477 1 1 2 1 (ints ([q404.Low])), .row A483 1 1 2 1 (ints ([(IntKind.i64.wrap (0 - q404.High))]))] := hs
                  have hs0 : St [] W w [.mat A15 n16 c17 36 2 vs19 r13.1, .blk b406 103 [.int .i64 q404.Low, .int .i64 q404.High]] := hs.sel [0, 3] (by decide)
                  refine wpO_nil ⟨Or.inr hs0, ?_⟩
                  refine gRun (i := 10) rfl (by kernel_rfl) ?_
                  obtain ⟨xs487, ha488, hj464⟩ := bind_some hj464
                  refine sAppendL (i := 2) (xs := xs275) (ys := [(IntKind.i64.wrap (0 - q404.High))]) (enc := ints) hf hs rfl rfl rfl rfl rfl rfl hn279 rfl rfl ha488 el36 ti2 rfl rfl rfl (hs.rd (i := 5) rfl) (Nat.succ_pos _) ints_len1 ints_append ints_one ?_; clear hf hs; intro a w A485 c486 hs hf
                  have hs : St [] W w [.mat A15 n16 c17 36 2 vs19 r13.1, .row A479 xs481.length c480 2 1 (ints xs481), .row A485 xs487.length c486 2 1 (ints xs487), .blk b406 103 [.int .i64 q404.Low, .int .i64 q404.High], .row A477 1 1 2 1 (ints ([q404.Low])), .row A483 1 1 2 1 (ints ([(IntKind.i64.wrap (0 - q404.High))]))] := hs
                  have hs0 : St [] W w [.mat A15 n16 c17 36 2 vs19 r13.1, .blk b406 103 [.int .i64 q404.Low, .int .i64 q404.High]] := hs.sel [0, 3] (by decide)
                  refine wpO_nil ⟨Or.inr hs0, ?_⟩
                  refine gY (i := 11) [] rfl (by kernel_rfl) (by kernel_rfl) hf hs0 rfl rfl rfl (Y_assign rfl rfl) ?_; clear hf; intro a hf
                  refine gY (i := 12) [] rfl (by kernel_rfl) (by kernel_rfl) hf hs0 rfl rfl rfl (Y_assign rfl rfl) ?_; clear hf; intro a hf
                  refine gDone (by kernel_rfl) ?_
                  clear hs0
                  refine wpL_nil (then_normal ?_)
                  exact ⟨xs481, xs487, A479, xs481.length, c480, A485, xs487.length, c486, Option.some.inj hj464, rfl, rfl, (Fr.pick (Fr.pick (Fr.pick (Fr.pick (Fr.pick (Fr.pick (Fr.pick hf.none hf rfl) hf rfl) hf rfl) hf rfl) hf rfl) hf rfl) hf rfl), hs.sel [0, 1, 2] (by decide)⟩
                · refine sBuildSlice (parts := [(0, .tmp 44)]) (vs := [.int .i64 (IntKind.i64.wrap (0 - q404.High))]) (cells := [.int .i64 (IntKind.i64.wrap (0 - q404.High))]) hf hs rfl rfl rfl rfl rfl el36 ti2 rfl rfl rfl rfl ?_; clear hf hs; intro a w A489 hs hA490 hf
                  have hs : St [] W w [.mat A15 n16 c17 36 2 vs19 r13.1, .row A270 n271 c272 2 1 (ints xs269), .row A276 n277 c278 2 1 (ints xs275), .blk b406 103 [.int .i64 q404.Low, .int .i64 q404.High], .row A477 1 1 2 1 (ints ([q404.Low])), .row A489 1 1 2 1 (ints ([(IntKind.i64.wrap (0 - q404.High))]))] := hs
                  have hs0 : St [] W w [.mat A15 n16 c17 36 2 vs19 r13.1, .blk b406 103 [.int .i64 q404.Low, .int .i64 q404.High]] := hs.sel [0, 3] (by decide)
                  refine wpO_nil ⟨Or.inr hs0, ?_⟩
                  refine gRun (i := 4) rfl (by kernel_rfl) ?_
                  obtain ⟨xs493, ha494, hj464⟩ := bind_some hj464
                  refine sAppendL (i := 1) (xs := xs269) (ys := [q404.Low]) (enc := ints) hf hs rfl rfl rfl rfl rfl rfl hn273 rfl rfl ha494 el36 ti2 rfl rfl rfl (hs.rd (i := 4) rfl) (Nat.succ_pos _) ints_len1 ints_append ints_one ?_; clear hf hs; intro a w A491 c492 hs hf
                  have hs : St [] W w [.mat A15 n16 c17 36 2 vs19 r13.1, .row A491 xs493.length c492 2 1 (ints xs493), .row A276 n277 c278 2 1 (ints xs275), .blk b406 103 [.int .i64 q404.Low, .int .i64 q404.High], .row A477 1 1 2 1 (ints ([q404.Low])), .row A489 1 1 2 1 (ints ([(IntKind.i64.wrap (0 - q404.High))]))] := hs
                  have hs0 : St [] W w [.mat A15 n16 c17 36 2 vs19 r13.1, .blk b406 103 [.int .i64 q404.Low, .int .i64 q404.High]] := hs.sel [0, 3] (by decide)
                  refine wpO_nil ⟨Or.inr hs0, ?_⟩
                  refine gRun (i := 10) rfl (by kernel_rfl) ?_
                  obtain ⟨xs497, ha498, hj464⟩ := bind_some hj464
                  refine sAppendL (i := 2) (xs := xs275) (ys := [(IntKind.i64.wrap (0 - q404.High))]) (enc := ints) hf hs rfl rfl rfl rfl rfl rfl hn279 rfl rfl ha498 el36 ti2 rfl rfl rfl (hs.rd (i := 5) rfl) (Nat.succ_pos _) ints_len1 ints_append ints_one ?_; clear hf hs; intro a w A495 c496 hs hf
                  have hs : St [] W w [.mat A15 n16 c17 36 2 vs19 r13.1, .row A491 xs493.length c492 2 1 (ints xs493), .row A495 xs497.length c496 2 1 (ints xs497), .blk b406 103 [.int .i64 q404.Low, .int .i64 q404.High], .row A477 1 1 2 1 (ints ([q404.Low])), .row A489 1 1 2 1 (ints ([(IntKind.i64.wrap (0 - q404.High))]))] := hs
                  have hs0 : St [] W w [.mat A15 n16 c17 36 2 vs19 r13.1, .blk b406 103 [.int .i64 q404.Low, .int .i64 q404.High]] := hs.sel [0, 3] (by decide)
                  refine wpO_nil ⟨Or.inr hs0, ?_⟩
                  refine gY (i := 11) [] rfl (by kernel_rfl) (by kernel_rfl) hf hs0 rfl rfl rfl (Y_assign rfl rfl) ?_; clear hf; intro a hf
                  refine gY (i := 12) [] rfl (by kernel_rfl) (by kernel_rfl) hf hs0 rfl rfl rfl (Y_assign rfl rfl) ?_; clear hf; intro a hf
                  refine gDone (by kernel_rfl) ?_
                  clear hs0
                  refine wpL_nil (then_normal ?_)
                  exact ⟨xs493, xs497, A491, xs493.length, c492, A495, xs497.length, c496, Option.some.inj hj464, rfl, rfl, (Fr.pick (Fr.pick (Fr.pick (Fr.pick (Fr.pick (Fr.pick (Fr.pick hf.none hf rfl) hf rfl) hf rfl) hf rfl) hf rfl) hf rfl) hf rfl), hs.sel [0, 1, 2] (by decide)⟩
              · refine sBuildSlice (parts := [(0, .tmp 44)]) (vs := [.int .i64 (IntKind.i64.wrap (0 - q404.High))]) (cells := [.int .i64 (IntKind.i64.wrap (0 - q404.High))]) hf hs rfl rfl rfl rfl rfl el36 ti2 rfl rfl rfl rfl ?_; clear hf hs; intro a w A499 hs hA500 hf
                have hs : St [] W w [.mat A15 n16 c17 36 2 vs19 r13.1, .row A270 n271 c272 2 1 (ints xs269), .row A276 n277 c278 2 1 (ints xs275), .blk b406 103 [.int .i64 q404.Low, .int .i64 q404.High], .row A499 1 1 2 1 (ints ([(IntKind.i64.wrap (0 - q404.High))]))] := hs
                have hs0 : St [] W w [.mat A15 n16 c17 36 2 vs19 r13.1, .blk b406 103 [.int .i64 q404.Low, .int .i64 q404.High]] := hs.sel [0, 3] (by decide)
                refine wpO_nil ⟨Or.inr hs0, ?_⟩
                refine gRun (i := 3) rfl (by kernel_rfl) ?_
                refine sBuildSlice (parts := [(0, .tmp 38)]) (vs := [.int .i64 q404.Low]) (cells := [.int .i64 q404.Low]) hf hs rfl rfl rfl rfl rfl el36 ti2 rfl rfl rfl rfl ?_; clear hf hs; intro a w A501 hs hA502 hf
                have hs : St [] W w [.mat A15 n16 c17 36 2 vs19 r13.1, .row A270 n271 c272 2 1 (ints xs269), .row A276 n277 c278 2 1 (ints xs275), .blk b406 103 [.int .i64 q404.Low, .int .i64 q404.High], .row A499 1 1 2 1 (ints ([(IntKind.i64.wrap (0 - q404.High))])), .row A501 1 1 2 1 (ints ([q404.Low]))] := hs
                have hs0 : St [] W w [.mat A15 n16 c17 36 2 vs19 r13.1, .blk b406 103 [.int .i64 q404.Low, .int .i64 q404.High]] := hs.sel [0, 3] (by decide)
                refine wpO_nil ⟨Or.inr hs0, ?_⟩
                refine gRun (i := 4) rfl (by kernel_rfl) ?_
                obtain ⟨xs505, ha506, hj464⟩ := bind_some hj464
                refine sAppendL (i := 1) (xs := xs269) (ys := [q404.Low]) (enc := ints) hf hs rfl rfl rfl rfl rfl rfl hn273 rfl rfl ha506 el36 ti2 rfl rfl rfl (hs.rd (i := 5) rfl) (Nat.succ_pos _) ints_len1 ints_append ints_one ?_; clear hf hs; intro a w A503 c504 hs hf
                have hs : St [] W w [.mat A15 n16 c17 36 2 vs19 r13.1, .row A503 xs505.length c504 2 1 (ints xs505), .row A276 n277 c278 2 1 (ints xs275), .blk b406 103 [.int .i64 q404.Low, .int .i64 q404.High], .row A499 1 1 2 1 (ints ([(IntKind.i64.wrap (0 - q404.High))])), .row A501 1 1 2 1 (ints ([q404.Low]))] := hs
                have hs0 : St [] W w [.mat A15 n16 c17 36 2 vs19 r13.1, .blk b406 103 [.int .i64 q404.Low, .int .i64 q404.High]] := hs.sel [0, 3] (by decide)
                refine wpO_nil ⟨Or.inr hs0, ?_⟩
                refine gRun (i := 10) rfl (by kernel_rfl) ?_
                obtain ⟨xs509, ha510, hj464⟩ := bind_some hj464
                refine sAppendL (i := 2) (xs := xs275) (ys := [(IntKind.i64.wrap (0 - q404.High))]) (enc := ints) hf hs rfl rfl rfl rfl rfl rfl hn279 rfl rfl ha510 el36 ti2 rfl rfl rfl (hs.rd (i := 4) rfl) (Nat.succ_pos _) ints_len1 ints_append ints_one ?_; clear hf hs; intro a w A507 c508 hs hf
                have hs : St [] W w [.mat A15 n16 c17 36 2 vs19 r13.1, .row A503 xs505.length c504 2 1 (ints xs505), .row A507 xs509.length c508 2 1 (ints xs509), .blk b406 103 [.int .i64 q404.Low, .int .i64 q404.High], .row A499 1 1 2 1 (ints ([(IntKind.i64.wrap (0 - q404.High))])), .row A501 1 1 2 1 (ints ([q404.Low]))] := hs
                have hs0 : St [] W w [.mat A15 n16 c17 36 2 vs19 r13.1, .blk b406 103 [.int .i64 q404.Low, .int .i64 q404.High]] := hs.sel [0, 3] (by decide)
                refine wpO_nil ⟨Or.inr hs0, ?_⟩
                refine gY (i := 11) [] rfl (by kernel_rfl) (by kernel_rfl) hf hs0 rfl rfl rfl (Y_assign rfl rfl) ?_; clear hf; intro a hf
                refine gY (i := 12) [] rfl (by kernel_rfl) (by kernel_rfl) hf hs0 rfl rfl rfl (Y_assign rfl rfl) ?_; clear hf; intro a hf
                refine gDone (by kernel_rfl) ?_
                clear hs0
                refine wpL_nil (then_normal ?_)
                exact ⟨xs505, xs509, A503, xs505.length, c504, A507, xs509.length, c508, Option.some.inj hj464, rfl, rfl, (Fr.pick (Fr.pick (Fr.pick (Fr.pick (Fr.pick (Fr.pick (Fr.pick hf.none hf rfl) hf rfl) hf rfl) hf rfl) hf rfl) hf rfl) hf rfl), hs.sel [0, 1, 2] (by decide)⟩
            · rintro a w ⟨xs453, xs458, A454, n455, c456, A459, n460, c461, hr_, hn457, hn462, hf, hs⟩
              subst hr_
              try dsimp only at hm401
              refine wpL_nil (Qb_normal ?_)
              refine wpL_region ?_
              refine sY hf hs rfl rfl rfl (Y_add rfl rfl rfl) ?_; clear hf; intro a hf
              refine sY hf hs rfl rfl rfl (Y_move rfl rfl) ?_; clear hf; intro a hf
              refine wpO_nil ?_
              refine wpL_nil (Ql_normal ?_)
              exact ⟨xs453, xs458, (IntKind.i64.wrap (x280 + 1)), A454, n455, c456, A459, n460, c461, hm401, hn457, hn462, (Fr.pick (Fr.pick (Fr.pick (Fr.pick (Fr.pick (Fr.pick (Fr.pick hf.none hf rfl) hf rfl) hf rfl) hf rfl) hf rfl) hf rfl) hf rfl), hs⟩
          · have hm401 := bif_f hm401 hb403
            refine wpL_exit (Ql_exit (Qb_exit ?_))
            exact ⟨xs269, xs275, A270, n271, c272, A276, n277, c278, Option.some.inj hm401, hn273, hn279, (Fr.pick (Fr.pick (Fr.pick (Fr.pick hf.none hf rfl) hf rfl) hf rfl) hf rfl), hs⟩
      · rintro a w ⟨xs389, xs394, A390, n391, c392, A395, n396, c397, hr_, hn393, hn398, hf, hs⟩
        subst hr_
        try dsimp only at hm
        refine wpL_seq ?_
        refine wpL_region ?_
        refine sY hf hs rfl rfl rfl (Y_move rfl rfl) ?_; clear hf; intro a hf
        refine sY hf hs rfl rfl rfl (Y_move rfl rfl) ?_; clear hf; intro a hf
        obtain ⟨r511, hc512, hm⟩ := bind_some hm
        refine sCall hf rfl rfl rfl rfl (cap := []) rfl rfl en150 (impl_timesVector_ok F r13.1 A15 n16 c17 hn18 xs389 A390 n391 c392 hn393 _ _ hc512 (hs.rdM (i := 0) rfl) (hs.rd (i := 1) rfl)) ?_; clear hf
        rintro _ w ⟨A513, n514, c515, rfl, hn516, hs1⟩ a hf
        have hs : St [] W w [.mat A15 n16 c17 36 2 vs19 r13.1, .row A390 n391 c392 2 1 (ints xs389), .row A395 n396 c397 2 1 (ints xs394), .row A513 n514 c515 2 1 (ints r511)] := hs.join hs1
        clear hs1
        refine sY hf hs rfl rfl rfl (Y_assign rfl rfl) ?_; clear hf; intro a hf
        refine wpO_nil ?_
        refine wpL_seq ?_
        refine wpL_region ?_
        refine sY hf hs rfl rfl rfl (Y_move rfl rfl) ?_; clear hf; intro a hf
        obtain ⟨r517, hc518, hm⟩ := bind_some hm
        refine sCall hf rfl rfl rfl rfl (cap := []) rfl rfl en151 (impl_transposed_ok F r13.1 A15 n16 c17 hn18 _ _ hc518 (hs.rdM (i := 0) rfl)) ?_; clear hf
        rintro _ w ⟨A519, n520, c521, vs523, rfl, hn522, hs1⟩ a hf
        have hs : St [] W w [.mat A15 n16 c17 36 2 vs19 r13.1, .row A390 n391 c392 2 1 (ints xs389), .row A395 n396 c397 2 1 (ints xs394), .row A513 n514 c515 2 1 (ints r511), .mat A519 n520 c521 36 2 vs523 r517] := hs.join hs1
        clear hs1
        refine sY hf hs rfl rfl rfl (Y_move rfl rfl) ?_; clear hf; intro a hf
        obtain ⟨r524, hc525, hm⟩ := bind_some hm
        refine sCall hf rfl rfl rfl rfl (cap := []) rfl rfl en150 (impl_timesVector_ok F r517 A519 n520 c521 hn522 xs394 A395 n396 c397 hn398 _ _ hc525 (hs.rdM (i := 4) rfl) (hs.rd (i := 2) rfl)) ?_; clear hf
        rintro _ w ⟨A526, n527, c528, rfl, hn529, hs1⟩ a hf
        have hs : St [] W w [.mat A15 n16 c17 36 2 vs19 r13.1, .row A390 n391 c392 2 1 (ints xs389), .row A395 n396 c397 2 1 (ints xs394), .row A513 n514 c515 2 1 (ints r511), .mat A519 n520 c521 36 2 vs523 r517, .row A526 n527 c528 2 1 (ints r524)] := hs.join hs1
        clear hs1
        refine sY hf hs rfl rfl rfl (Y_assign rfl rfl) ?_; clear hf; intro a hf
        refine wpO_nil ?_
        refine wpL_seq ?_
        refine wpL_seq ?_
        refine wpL_region ?_
        refine sY hf hs rfl rfl rfl (Y_move rfl rfl) ?_; clear hf; intro a hf
        refine sY hf hs rfl rfl rfl (Y_lenH rfl rfl el53 rfl) ?_; clear hf; intro a hf
        refine sY hf hs rfl rfl rfl (Y_move rfl rfl) ?_; clear hf; intro a hf
        refine wpO_nil ?_
        obtain ⟨r577, hl578, hm⟩ := bind_some hm
        refine wpL_block (fun a w => ∃ xs575 : List Int, Sum.inr xs575 = r577 ∧ n527 = xs575.length ∧ Fr a 80 [(13, .slice A513 n514 c515), (14, .slice A526 n527 c528)] ∧ St [] W w [.row A513 n514 c515 2 1 (ints r511), .row A526 n527 c528 2 1 (ints xs575)]) ?_ ?_
        · refine wpL_loop (fun n a w => ∃ xs559 : List Int, ∃ x561 : Int, impl_solveTask_L2 F p0 r511 n xs559 x561 = some r577 ∧ n527 = xs559.length ∧ Fr a 80 [(13, .slice A513 n514 c515), (14, .slice A526 n527 c528), (55, .slice A_p0_1 p0.length c_p0_1), (56, .int .i64 (p0.length : Int)), (57, .int .i64 x561)] ∧ St [] W w [.row A513 n514 c515 2 1 (ints r511), .row A526 n527 c528 2 1 (ints xs559)]) F ?_ ?_ ?_
          · exact ⟨r524, 0, hl578, hn529, (Fr.pick (Fr.pick (Fr.pick (Fr.pick (Fr.pick hf.none hf rfl) hf rfl) hf rfl) hf rfl) hf rfl), hs.sel [3, 5] (by decide)⟩
          · rintro a w ⟨xs559, x561, h0_, -, -, -⟩; simp [impl_solveTask_L2] at h0_
          · rintro n580 a w ⟨xs559, x561, hm579, hn560, hf, hs⟩
            rw [impl_solveTask_L2] at hm579
            refine wpL_seq ?_
            refine wpL_region ?_
            refine sY hf hs rfl rfl rfl (Y_lss rfl rfl rfl) ?_; clear hf; intro a hf
            refine wpO_nil ?_
            refine wpL_seq ?_
            refine wpL_cond hf rfl (fun hb581 => ?_) (fun hb581 => ?_)
            · have hm579 := bif_t hm579 hb581
              refine wpL_skip ?_
              refine wpL_seq ?_
              refine wpL_block0 ?_
              refine wpL_seq ?_
              refine wpL_region ?_
              refine sY hf hs rfl rfl rfl (Y_move rfl rfl) ?_; clear hf; intro a hf
              obtain ⟨q582, hi583, hm579⟩ := bind_some hm579
              obtain ⟨hi583a, hi583b, hi583q⟩ := idx_some hi583
              refine sY hf hs rfl rfl rfl (Y_index rfl rfl rfl el53 ti103 (Rd.isAt (h_p0_1.at hs) (recs_at (s := 2) GWindow.len hi583q (j := 0) rfl)) hi583a hi583b) ?_; clear hf; intro a hf
              refine sY hf hs rfl rfl rfl (Y_load_rdS rfl rfl (us := [.int .i64 q582.Low, .int .i64 q582.High]) (fun w hs => h_p0_1.at hs) (fun j u hj => recs_at (s := 2) GWindow.len hi583q hj) (Nat.succ_pos _) ag103 ti103 rfl) ?_; clear hf; intro a hf
              refine sAlloc hf hs rfl rfl rfl rfl ti103 ?_; clear hf hs; intro a w b584 hs hf
              have hs : St [] W w [.row A513 n514 c515 2 1 (ints r511), .row A526 n527 c528 2 1 (ints xs559), .blk b584 103 [.int .i64 0, .int .i64 0]] := hs
              refine sY hf hs rfl rfl rfl (Y_assign rfl rfl) ?_; clear hf; intro a hf
              refine sStore (i := 2) (us := [.int .i64 q582.Low, .int .i64 q582.High]) hf hs rfl rfl rfl rfl rfl rfl ti103 rfl rfl rfl (Nat.le_of_ble_eq_true rfl) rfl ?_; clear hs; intro w hs
              have hs : St [] W w [.row A513 n514 c515 2 1 (ints r511), .row A526 n527 c528 2 1 (ints xs559), .blk b584 103 [.int .i64 q582.Low, .int .i64 q582.High]] := hs
              refine wpO_nil ?_
              refine wpL_seq ?_
              refine wpL_region ?_
              refine sY hf hs rfl rfl rfl (Y_move rfl rfl) ?_; clear hf; intro a hf
              refine sY hf hs rfl rfl rfl (Y_move rfl rfl) ?_; clear hf; intro a hf
              refine sY hf hs rfl rfl rfl (Y_move rfl rfl) ?_; clear hf; intro a hf
              refine sY hf hs rfl rfl rfl (Y_move rfl rfl) ?_; clear hf; intro a hf
              obtain ⟨q585, hi586, hm579⟩ := bind_some hm579
              obtain ⟨hi586a, hi586b, hi586q⟩ := idx_some hi586
              refine sY hf hs rfl rfl rfl (Y_index rfl rfl rfl el36 ti2 (Rd.isAt (hs.rd (i := 1) rfl) (at1 (ints_at hi586q))) hi586a (ltn hn560 hi586b)) ?_; clear hf; intro a hf
              refine sY hf hs rfl rfl rfl (Y_load_rd rfl rfl (fun w hs => hs.rd (i := 1) rfl) (at1 (ints_at hi586q)) ag2) ?_; clear hf; intro a hf
              refine sY hf hs rfl rfl rfl (Y_neg rfl rfl) ?_; clear hf; intro a hf
              obtain ⟨q587, hi588, hm579⟩ := bind_some hm579
              obtain ⟨hi588a, hi588b, hi588q⟩ := idx_some hi588
              refine sY hf hs rfl rfl rfl (Y_index rfl rfl rfl el36 ti2 (Rd.isAt (hs.rd (i := 1) rfl) (at1 (ints_at hi588q))) hi588a (ltn hn560 hi588b)) ?_; clear hf; intro a hf
              obtain ⟨xs589, hu590, hm579⟩ := bind_some hm579
              refine sStoreL (i := 1) (us := [.int .i64 (IntKind.i64.wrap (0 - q585))]) (enc := ints) hf hs rfl rfl rfl rfl rfl rfl hn560 hu590 ti2 rfl rfl rfl rfl rfl ints_len1 (ints_set (IntKind.i64.wrap (0 - q585))) ?_; clear hs; intro w hs
              have hs : St [] W w [.row A513 n514 c515 2 1 (ints r511), .row A526 n527 c528 2 1 (ints xs589), .blk b584 103 [.int .i64 q582.Low, .int .i64 q582.High]] := hs
              refine wpO_nil ?_
              refine wpL_seq ?_
              refine wpL_draw (by kernel_rfl) (by kernel_rfl) hs ?_
              refine qY hf rfl rfl rfl (Y_move rfl rfl) ?_; clear hf; intro a hf
              refine qY hf rfl rfl rfl (Y_move rfl rfl) ?_; clear hf; intro a hf
              obtain ⟨q591, hi592, hm579⟩ := bind_some hm579
              obtain ⟨hi592a, hi592b, hi592q⟩ := idx_some hi592
              refine qY hf rfl rfl rfl (Y_index rfl rfl rfl el36 ti2 (Rd.isAt (hs.rd (i := 0) rfl) (at1 (ints_at hi592q))) hi592a (ltn hn516 hi592b)) ?_; clear hf; intro a hf
              refine qY hf rfl rfl rfl (Y_load_rd rfl rfl (fun w hs => hs.rd (i := 0) rfl) (at1 (ints_at hi592q)) ag2) ?_; clear hf; intro a hf
              refine qY hf rfl rfl rfl (Y_fieldAddr rfl rfl fo103_1) ?_; clear hf; intro a hf
              refine qY hf rfl rfl rfl (Y_load_blk rfl rfl (i := 2) rfl rfl ag2) ?_; clear hf; intro a hf
              refine qY hf rfl rfl rfl (Y_gtr rfl rfl rfl) ?_; clear hf; intro a hf
              refine qNil ?_; clear hs; intro w hs
              refine wpL_cond hf rfl (fun hb593 => ?_) (fun hb593 => ?_)
              · have hm579 := bif_t hm579 hb593
                refine wpL_seq ?_
                refine wpL_region ?_
                refine sY hf hs rfl rfl rfl (Y_assign rfl rfl) ?_; clear hf; intro a hf
                refine sY hf hs rfl rfl rfl (Y_assign rfl rfl) ?_; clear hf; intro a hf
                refine sY hf hs rfl rfl rfl (Y_assign rfl rfl) ?_; clear hf; intro a hf
                refine wpO_nil ?_
                have hs : St [] W _ [.row A513 n514 c515 2 1 (ints r511), .row A526 n527 c528 2 1 (ints xs589), .blk b584 103 [.int .i64 q582.Low, .int .i64 q582.High], .row none 0 0 2 1 (ints ([] : List Int))] := hs.addNil 2 1
                have hs : St [] W _ [.row A513 n514 c515 2 1 (ints r511), .row A526 n527 c528 2 1 (ints xs589), .blk b584 103 [.int .i64 q582.Low, .int .i64 q582.High], .row none 0 0 2 1 (ints ([] : List Int)), .row none 0 0 2 1 (ints ([] : List Int))] := hs.addNil 2 1
                obtain rfl := Option.some.inj hm579
                try dsimp only at hm
                obtain rfl := Option.some.inj hm
                refine wpL_ret (Qb_ret (Ql_ret (Qb_ret (ret_tmp3 rfl hf rfl rfl rfl ?_))))
                exact ⟨_, rfl, none, 0, 0, none, 0, 0, rfl, rfl, rfl, hs.sel [3, 4] (by decide)⟩
              · have hm579 := bif_f hm579 hb593
                refine wpL_skip ?_
                refine wpL_nil (Qb_normal ?_)
                refine wpL_region ?_
                refine sY hf hs rfl rfl rfl (Y_add rfl rfl rfl) ?_; clear hf; intro a hf
                refine sY hf hs rfl rfl rfl (Y_move rfl rfl) ?_; clear hf; intro a hf
                refine wpO_nil ?_
                refine wpL_nil (Ql_normal ?_)
                exact ⟨xs589, (IntKind.i64.wrap (x561 + 1)), hm579, ((hn560).trans (upd_len hu590).symm), (Fr.pick (Fr.pick (Fr.pick (Fr.pick (Fr.pick hf.none hf rfl) hf rfl) hf rfl) hf rfl) hf rfl), hs.sel [0, 1] (by decide)⟩
            · have hm579 := bif_f hm579 hb581
              refine wpL_exit (Ql_exit (Qb_exit ?_))
              exact ⟨xs559, Option.some.inj hm579, hn560, (Fr.pick (Fr.pick hf.none hf rfl) hf rfl), hs⟩
        · rintro a w ⟨xs575, hr_, hn576, hf, hs⟩
          subst hr_
          try dsimp only at hm
          refine wpL_seq ?_
          refine wpL_region ?_
          refine sY hf hs rfl rfl rfl (Y_move rfl rfl) ?_; clear hf; intro a hf
          refine sY hf hs rfl rfl rfl (Y_move rfl rfl) ?_; clear hf; intro a hf
          refine sY hf hs rfl rfl rfl (Y_assign rfl rfl) ?_; clear hf; intro a hf
          refine sY hf hs rfl rfl rfl (Y_assign rfl rfl) ?_; clear hf; intro a hf
          refine sY hf hs rfl rfl rfl (Y_assign rfl rfl) ?_; clear hf; intro a hf
          refine wpO_nil ?_
          obtain rfl := Option.some.inj hm
          refine wpL_ret (ret_tmp3 rfl hf rfl rfl rfl ?_)
          exact ⟨_, rfl, A513, n514, c515, A526, n527, c528, rfl, hn516, hn576, hs⟩

end Go.Proofs.Ytmijmamolmoheaa
