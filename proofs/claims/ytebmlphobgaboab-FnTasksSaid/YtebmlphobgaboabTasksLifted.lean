/- The functions do what their models say. -/
import Derived.Test.YtebmlphobgaboabTasksLifted3
import Derived.Test.YtebmlphobgaboabRows
namespace Go.Proofs.Ytebmlphobgaboab
open Go.RowKit

set_option maxRecDepth 100000 in
theorem laws_below9_ok (F : Nat) (p0_a : List Int) (A_p0_a_1 : Option Addr) (n_p0_a_1 c_p0_a_1 : Nat) (hn_p0_a_1 : n_p0_a_1 = p0_a.length) (p1_b : List Int) (A_p1_b_1 : Option Addr) (n_p1_b_1 c_p1_b_1 : Nat) (hn_p1_b_1 : n_p1_b_1 = p1_b.length) (r : Bool) (W : World) (hm : laws_below9 F p0_a p1_b = some r) (h_p0_a_1 : Rd W A_p0_a_1 (ints p0_a)) (h_p1_b_1 : Rd W A_p1_b_1 (ints p1_b)) :
    Calls Try.prog 23 [.slice A_p0_a_1 n_p0_a_1 c_p0_a_1, .slice A_p1_b_1 n_p1_b_1 c_p1_b_1].toArray W fun e w' => ∃ v, e = .returned v ∧ v = .bool r ∧ St [] W w' [] := by
  subst hn_p0_a_1
  subst hn_p1_b_1
  unfold laws_below9 at hm
  refine Calls.enter (N := 26) Try.func23 rfl rfl rfl (fun a hf => ?_)
  have hs := St.start W
  obtain ⟨w, hw_⟩ : ∃ w, w = W := ⟨W, rfl⟩
  clear hw_ w
  refine wpL_seq ?_
  refine wpL_region ?_
  refine sY hf hs rfl rfl rfl (Y_assign rfl rfl) ?_; clear hf; intro a hf
  refine wpO_nil ?_
  refine wpL_seq ?_
  refine wpL_seq ?_
  refine wpL_region ?_
  refine sY hf hs rfl rfl rfl (Y_move rfl rfl) ?_; clear hf; intro a hf
  refine sY hf hs rfl rfl rfl (Y_lenH rfl rfl el28 rfl) ?_; clear hf; intro a hf
  refine sY hf hs rfl rfl rfl (Y_move rfl rfl) ?_; clear hf; intro a hf
  refine sY hf hs rfl rfl rfl (Y_lenH rfl rfl el28 rfl) ?_; clear hf; intro a hf
  refine sY hf hs rfl rfl rfl (Y_neq rfl rfl rfl) ?_; clear hf; intro a hf
  refine wpO_nil ?_
  refine wpL_cond hf rfl (fun hb1 => ?_) (fun hb1 => ?_)
  · have hm := bif_t hm hb1
    refine wpL_seq ?_
    refine wpL_region ?_
    refine sY hf hs rfl rfl rfl (Y_assign rfl rfl) ?_; clear hf; intro a hf
    refine wpO_nil ?_
    obtain rfl := Option.some.inj hm
    refine wpL_ret (ret_tmp rfl hf rfl ?_)
    exact ⟨_, rfl, rfl, hs⟩
  · have hm := bif_f hm hb1
    refine wpL_skip ?_
    refine wpL_seq ?_
    refine wpL_seq ?_
    refine wpL_region ?_
    refine sY hf hs rfl rfl rfl (Y_assign rfl rfl) ?_; clear hf; intro a hf
    refine wpO_nil ?_
    obtain ⟨r22, hl23, hm⟩ := bind_some hm
    refine wpL_block (fun a w => Sum.inr () = r22 ∧ Fr a 26 [] ∧ St [] W w []) ?_ ?_
    · refine wpL_loop (fun n a w => ∃ x15 : Int, laws_below9_L1 F p0_a p1_b n x15 = some r22 ∧ Fr a 26 [(0, .slice A_p0_a_1 p0_a.length c_p0_a_1), (1, .slice A_p1_b_1 p1_b.length c_p1_b_1), (5, .int .i64 x15)] ∧ St [] W w []) F ?_ ?_ ?_
      · exact ⟨0, hl23, (FrD.pick (FrD.pick (FrD.pick hf.none hf rfl) hf rfl) hf rfl), hs⟩
      · rintro a w ⟨x15, h0_, -, -⟩; simp [laws_below9_L1] at h0_
      · rintro n25 a w ⟨x15, hm24, hf, hs⟩
        rw [laws_below9_L1] at hm24
        refine wpL_seq ?_
        refine wpL_seq ?_
        refine wpL_region ?_
        refine sY hf hs rfl rfl rfl (Y_move rfl rfl) ?_; clear hf; intro a hf
        refine sY hf hs rfl rfl rfl (Y_move rfl rfl) ?_; clear hf; intro a hf
        refine sY hf hs rfl rfl rfl (Y_lenH rfl rfl el28 rfl) ?_; clear hf; intro a hf
        refine sY hf hs rfl rfl rfl (Y_lss rfl rfl rfl) ?_; clear hf; intro a hf
        refine wpO_nil ?_
        refine wpL_cond hf rfl (fun hb26 => ?_) (fun hb26 => ?_)
        · have hm24 := bif_t hm24 hb26
          refine wpL_skip ?_
          refine wpL_seq ?_
          refine wpL_block0 ?_
          refine wpL_seq ?_
          refine wpL_draw (by kernel_rfl) (by kernel_rfl) hs ?_
          refine qY hf rfl rfl rfl (Y_move rfl rfl) ?_; clear hf; intro a hf
          refine qY hf rfl rfl rfl (Y_move rfl rfl) ?_; clear hf; intro a hf
          obtain ⟨q27, hi28, hm24⟩ := bind_some hm24
          obtain ⟨hi28a, hi28b, hi28q⟩ := idx_some hi28
          refine qY hf rfl rfl rfl (Y_index rfl rfl rfl el28 ti2 (Rd.isAt (h_p0_a_1.at hs) (at1 (ints_at hi28q))) hi28a hi28b) ?_; clear hf; intro a hf
          refine qY hf rfl rfl rfl (Y_load_rd rfl rfl (fun w hs => h_p0_a_1.at hs) (at1 (ints_at hi28q)) ag2) ?_; clear hf; intro a hf
          refine qY hf rfl rfl rfl (Y_move rfl rfl) ?_; clear hf; intro a hf
          refine qY hf rfl rfl rfl (Y_move rfl rfl) ?_; clear hf; intro a hf
          obtain ⟨q29, hi30, hm24⟩ := bind_some hm24
          obtain ⟨hi30a, hi30b, hi30q⟩ := idx_some hi30
          refine qY hf rfl rfl rfl (Y_index rfl rfl rfl el28 ti2 (Rd.isAt (h_p1_b_1.at hs) (at1 (ints_at hi30q))) hi30a hi30b) ?_; clear hf; intro a hf
          refine qY hf rfl rfl rfl (Y_load_rd rfl rfl (fun w hs => h_p1_b_1.at hs) (at1 (ints_at hi30q)) ag2) ?_; clear hf; intro a hf
          refine qY hf rfl rfl rfl (Y_gtr rfl rfl rfl) ?_; clear hf; intro a hf
          refine qNil ?_; clear hs; intro w hs
          refine wpL_cond hf rfl (fun hb31 => ?_) (fun hb31 => ?_)
          · have hm24 := bif_t hm24 hb31
            refine wpL_seq ?_
            refine wpL_region ?_
            refine sY hf hs rfl rfl rfl (Y_assign rfl rfl) ?_; clear hf; intro a hf
            refine wpO_nil ?_
            obtain rfl := Option.some.inj hm24
            try dsimp only at hm
            obtain rfl := Option.some.inj hm
            refine wpL_ret (Qb_ret (Ql_ret (Qb_ret (ret_tmp rfl hf rfl ?_))))
            exact ⟨_, rfl, rfl, hs⟩
          · have hm24 := bif_f hm24 hb31
            refine wpL_skip ?_
            refine wpL_nil (Qb_normal ?_)
            refine wpL_region ?_
            refine sY hf hs rfl rfl rfl (Y_move rfl rfl) ?_; clear hf; intro a hf
            refine sY hf hs rfl rfl rfl (Y_add rfl rfl rfl) ?_; clear hf; intro a hf
            refine sY hf hs rfl rfl rfl (Y_assign rfl rfl) ?_; clear hf; intro a hf
            refine wpO_nil ?_
            refine wpL_nil (Ql_normal ?_)
            exact ⟨(IntKind.i64.wrap (x15 + 1)), hm24, (FrD.pick (FrD.pick (FrD.pick hf.none hf rfl) hf rfl) hf rfl), hs⟩
        · have hm24 := bif_f hm24 hb26
          refine wpL_exit (Ql_exit (Qb_exit ?_))
          exact ⟨Option.some.inj hm24, hf.none, hs⟩
    · rintro a w ⟨hr_, hf, hs⟩
      subst hr_
      try dsimp only at hm
      refine wpL_seq ?_
      refine wpL_region ?_
      refine sY hf hs rfl rfl rfl (Y_assign rfl rfl) ?_; clear hf; intro a hf
      refine wpO_nil ?_
      obtain rfl := Option.some.inj hm
      refine wpL_ret (ret_tmp rfl hf rfl ?_)
      exact ⟨_, rfl, rfl, hs⟩

set_option maxHeartbeats 2000000 in
set_option maxRecDepth 100000 in
theorem laws_FnTasks_ok (F : Nat) (p0 : List Int) (A_p0_1 : Option Addr) (n_p0_1 c_p0_1 : Nat) (hn_p0_1 : n_p0_1 = p0.length) (r : Bool) (W : World) (hm : laws_FnTasks F p0 = some r) (h_p0_1 : Rd W A_p0_1 (bytes p0)) :
    Calls Try.prog 3 [.slice A_p0_1 n_p0_1 c_p0_1].toArray W fun e w' => ∃ v, e = .returned v ∧ v = .bool r ∧ St [] W w' [] := by
  subst hn_p0_1
  unfold laws_FnTasks at hm
  refine Calls.enter (N := 252) Try.func3 rfl rfl rfl (fun a hf => ?_)
  have hs := St.start W
  obtain ⟨w, hw_⟩ : ∃ w, w = W := ⟨W, rfl⟩
  clear hw_ w
  refine wpL_seq ?_
  refine wpL_region ?_
  refine sY hf hs rfl rfl rfl (Y_assign rfl rfl) ?_; clear hf; intro a hf
  refine wpO_nil ?_
  refine wpL_seq ?_
  refine wpL_seq ?_
  refine wpL_region ?_
  refine sY hf hs rfl rfl rfl (Y_move rfl rfl) ?_; clear hf; intro a hf
  obtain ⟨r1, hc2, hm⟩ := bind_some hm
  refine sCall hf rfl rfl rfl rfl (cap := []) rfl rfl en9 (laws_big_ok F p0 A_p0_1 p0.length c_p0_1 rfl _ _ hc2 (h_p0_1.at hs)) ?_; clear hf
  rintro _ w ⟨rfl, hs1⟩ a hf
  have hs : St [] W w [] := hs.ext hs1.below
  clear hs1
  refine wpO_nil ?_
  refine wpL_cond hf rfl (fun hb3 => ?_) (fun hb3 => ?_)
  · have hm := bif_t hm hb3
    refine wpL_seq ?_
    refine wpL_region ?_
    refine sY hf hs rfl rfl rfl (Y_assign rfl rfl) ?_; clear hf; intro a hf
    refine wpO_nil ?_
    obtain rfl := Option.some.inj hm
    refine wpL_ret (ret_tmp rfl hf rfl ?_)
    exact ⟨_, rfl, rfl, hs⟩
  · have hm := bif_f hm hb3
    refine wpL_skip ?_
    refine wpL_seq ?_
    refine wpL_region ?_
    refine sY hf hs rfl rfl rfl (Y_move rfl rfl) ?_; clear hf; intro a hf
    obtain ⟨r4, hc5, hm⟩ := bind_some hm
    refine sCall hf rfl rfl rfl rfl (cap := []) rfl rfl en10 (spec_DrawTightWindows_ok F p0 A_p0_1 p0.length c_p0_1 rfl _ _ hc5 (h_p0_1.at hs)) ?_; clear hf
    rintro _ w ⟨A6, n7, c8, A10, n11, c12, rfl, hn9, hn13, hs1⟩ a hf
    have hs : St [] W w [.row A6 n7 c8 39 2 ((recs GWindow.cells) r4.1), .row A10 n11 c12 95 3 ((recs GBond.cells) r4.2)] := hs.join hs1
    clear hs1
    refine sY hf hs rfl rfl rfl (Y_move rfl rfl) ?_; clear hf; intro a hf
    refine sY hf hs rfl rfl rfl (Y_extract rfl rfl rfl) ?_; clear hf; intro a hf
    refine sY hf hs rfl rfl rfl (Y_extract rfl rfl rfl) ?_; clear hf; intro a hf
    refine sY hf hs rfl rfl rfl (Y_assign rfl rfl) ?_; clear hf; intro a hf
    refine sY hf hs rfl rfl rfl (Y_assign rfl rfl) ?_; clear hf; intro a hf
    refine wpO_nil ?_
    refine wpL_seq ?_
    refine wpL_region ?_
    refine sY hf hs rfl rfl rfl (Y_move rfl rfl) ?_; clear hf; intro a hf
    refine sY hf hs rfl rfl rfl (Y_move rfl rfl) ?_; clear hf; intro a hf
    obtain ⟨r14, hc15, hm⟩ := bind_some hm
    refine sCall hf rfl rfl rfl rfl (cap := []) rfl rfl en11 (impl_EarliestTimes_ok F r4.1 A6 n7 c8 hn9 r4.2 A10 n11 c12 hn13 _ _ hc15 (hs.rd (i := 0) rfl) (hs.rd (i := 1) rfl)) ?_; clear hf
    rintro _ w ⟨A16, n17, c18, rfl, hn19, hs1⟩ a hf
    have hs : St [] W w [.row A6 n7 c8 39 2 ((recs GWindow.cells) r4.1), .row A10 n11 c12 95 3 ((recs GBond.cells) r4.2), .row A16 n17 c18 2 1 (ints r14.1)] := hs.join hs1
    clear hs1
    refine sY hf hs rfl rfl rfl (Y_move rfl rfl) ?_; clear hf; intro a hf
    refine sY hf hs rfl rfl rfl (Y_extract rfl rfl rfl) ?_; clear hf; intro a hf
    refine sY hf hs rfl rfl rfl (Y_extract rfl rfl rfl) ?_; clear hf; intro a hf
    refine sY hf hs rfl rfl rfl (Y_assign rfl rfl) ?_; clear hf; intro a hf
    refine sY hf hs rfl rfl rfl (Y_assign rfl rfl) ?_; clear hf; intro a hf
    refine wpO_nil ?_
    refine wpL_seq ?_
    refine wpL_region ?_
    refine sY hf hs rfl rfl rfl (Y_move rfl rfl) ?_; clear hf; intro a hf
    refine sY hf hs rfl rfl rfl (Y_move rfl rfl) ?_; clear hf; intro a hf
    obtain ⟨r20, hc21, hm⟩ := bind_some hm
    refine sCall hf rfl rfl rfl rfl (cap := []) rfl rfl en12 (spec_EarliestTimes_ok F r4.1 A6 n7 c8 hn9 r4.2 A10 n11 c12 hn13 _ _ hc21 (hs.rd (i := 0) rfl) (hs.rd (i := 1) rfl)) ?_; clear hf
    rintro _ w ⟨A22, n23, c24, rfl, hn25, hs1⟩ a hf
    have hs : St [] W w [.row A6 n7 c8 39 2 ((recs GWindow.cells) r4.1), .row A10 n11 c12 95 3 ((recs GBond.cells) r4.2), .row A16 n17 c18 2 1 (ints r14.1), .row A22 n23 c24 2 1 (ints r20.1)] := hs.join hs1
    clear hs1
    refine sY hf hs rfl rfl rfl (Y_move rfl rfl) ?_; clear hf; intro a hf
    refine sY hf hs rfl rfl rfl (Y_extract rfl rfl rfl) ?_; clear hf; intro a hf
    refine sY hf hs rfl rfl rfl (Y_extract rfl rfl rfl) ?_; clear hf; intro a hf
    refine sY hf hs rfl rfl rfl (Y_assign rfl rfl) ?_; clear hf; intro a hf
    refine sY hf hs rfl rfl rfl (Y_assign rfl rfl) ?_; clear hf; intro a hf
    refine wpO_nil ?_
    refine wpL_seq ?_
    refine wpL_region ?_
    refine sY hf hs rfl rfl rfl (Y_move rfl rfl) ?_; clear hf; intro a hf
    refine sY hf hs rfl rfl rfl (Y_move rfl rfl) ?_; clear hf; intro a hf
    obtain ⟨r26, hc27, hm⟩ := bind_some hm
    refine sCall hf rfl rfl rfl rfl (cap := []) rfl rfl en13 (impl_LatestIn_ok F r4.1 A6 n7 c8 hn9 r4.2 A10 n11 c12 hn13 _ _ hc27 (hs.rd (i := 0) rfl) (hs.rd (i := 1) rfl)) ?_; clear hf
    rintro _ w ⟨A28, n29, c30, rfl, hn31, hs1⟩ a hf
    have hs : St [] W w [.row A6 n7 c8 39 2 ((recs GWindow.cells) r4.1), .row A10 n11 c12 95 3 ((recs GBond.cells) r4.2), .row A16 n17 c18 2 1 (ints r14.1), .row A22 n23 c24 2 1 (ints r20.1), .row A28 n29 c30 2 1 (ints r26.1)] := hs.join hs1
    clear hs1
    refine sY hf hs rfl rfl rfl (Y_move rfl rfl) ?_; clear hf; intro a hf
    refine sY hf hs rfl rfl rfl (Y_extract rfl rfl rfl) ?_; clear hf; intro a hf
    refine sY hf hs rfl rfl rfl (Y_extract rfl rfl rfl) ?_; clear hf; intro a hf
    refine sY hf hs rfl rfl rfl (Y_assign rfl rfl) ?_; clear hf; intro a hf
    refine sY hf hs rfl rfl rfl (Y_assign rfl rfl) ?_; clear hf; intro a hf
    refine wpO_nil ?_
    refine wpL_seq ?_
    refine wpL_region ?_
    refine sY hf hs rfl rfl rfl (Y_move rfl rfl) ?_; clear hf; intro a hf
    refine sY hf hs rfl rfl rfl (Y_move rfl rfl) ?_; clear hf; intro a hf
    obtain ⟨r32, hc33, hm⟩ := bind_some hm
    refine sCall hf rfl rfl rfl rfl (cap := []) rfl rfl en14 (spec_LatestIn_ok F r4.1 A6 n7 c8 hn9 r4.2 A10 n11 c12 hn13 _ _ hc33 (hs.rd (i := 0) rfl) (hs.rd (i := 1) rfl)) ?_; clear hf
    rintro _ w ⟨A34, n35, c36, rfl, hn37, hs1⟩ a hf
    have hs : St [] W w [.row A6 n7 c8 39 2 ((recs GWindow.cells) r4.1), .row A10 n11 c12 95 3 ((recs GBond.cells) r4.2), .row A16 n17 c18 2 1 (ints r14.1), .row A22 n23 c24 2 1 (ints r20.1), .row A28 n29 c30 2 1 (ints r26.1), .row A34 n35 c36 2 1 (ints r32.1)] := hs.join hs1
    clear hs1
    refine sY hf hs rfl rfl rfl (Y_move rfl rfl) ?_; clear hf; intro a hf
    refine sY hf hs rfl rfl rfl (Y_extract rfl rfl rfl) ?_; clear hf; intro a hf
    refine sY hf hs rfl rfl rfl (Y_extract rfl rfl rfl) ?_; clear hf; intro a hf
    refine sY hf hs rfl rfl rfl (Y_assign rfl rfl) ?_; clear hf; intro a hf
    refine sY hf hs rfl rfl rfl (Y_assign rfl rfl) ?_; clear hf; intro a hf
    refine wpO_nil ?_
    refine wpL_seq ?_
    refine wpL_region ?_
    refine sY hf hs rfl rfl rfl (Y_move rfl rfl) ?_; clear hf; intro a hf
    refine sY hf hs rfl rfl rfl (Y_move rfl rfl) ?_; clear hf; intro a hf
    obtain ⟨r38, hc39, hm⟩ := bind_some hm
    refine sCall hf rfl rfl rfl rfl (cap := []) rfl rfl en15 (impl_TightWindows_ok F r4.1 A6 n7 c8 hn9 r4.2 A10 n11 c12 hn13 _ _ hc39 (hs.rd (i := 0) rfl) (hs.rd (i := 1) rfl)) ?_; clear hf
    rintro _ w ⟨A40, n41, c42, rfl, hn43, hs1⟩ a hf
    have hs : St [] W w [.row A6 n7 c8 39 2 ((recs GWindow.cells) r4.1), .row A10 n11 c12 95 3 ((recs GBond.cells) r4.2), .row A16 n17 c18 2 1 (ints r14.1), .row A22 n23 c24 2 1 (ints r20.1), .row A28 n29 c30 2 1 (ints r26.1), .row A34 n35 c36 2 1 (ints r32.1), .row A40 n41 c42 39 2 ((recs GWindow.cells) r38.1)] := hs.join hs1
    clear hs1
    refine sY hf hs rfl rfl rfl (Y_move rfl rfl) ?_; clear hf; intro a hf
    refine sY hf hs rfl rfl rfl (Y_extract rfl rfl rfl) ?_; clear hf; intro a hf
    refine sY hf hs rfl rfl rfl (Y_extract rfl rfl rfl) ?_; clear hf; intro a hf
    refine sY hf hs rfl rfl rfl (Y_assign rfl rfl) ?_; clear hf; intro a hf
    refine sY hf hs rfl rfl rfl (Y_assign rfl rfl) ?_; clear hf; intro a hf
    refine wpO_nil ?_
    refine wpL_seq ?_
    refine wpL_region ?_
    refine sY hf hs rfl rfl rfl (Y_move rfl rfl) ?_; clear hf; intro a hf
    refine sY hf hs rfl rfl rfl (Y_move rfl rfl) ?_; clear hf; intro a hf
    obtain ⟨r44, hc45, hm⟩ := bind_some hm
    refine sCall hf rfl rfl rfl rfl (cap := []) rfl rfl en16 (spec_TightWindows_ok F r4.1 A6 n7 c8 hn9 r4.2 A10 n11 c12 hn13 _ _ hc45 (hs.rd (i := 0) rfl) (hs.rd (i := 1) rfl)) ?_; clear hf
    rintro _ w ⟨A46, n47, c48, rfl, hn49, hs1⟩ a hf
    have hs : St [] W w [.row A6 n7 c8 39 2 ((recs GWindow.cells) r4.1), .row A10 n11 c12 95 3 ((recs GBond.cells) r4.2), .row A16 n17 c18 2 1 (ints r14.1), .row A22 n23 c24 2 1 (ints r20.1), .row A28 n29 c30 2 1 (ints r26.1), .row A34 n35 c36 2 1 (ints r32.1), .row A40 n41 c42 39 2 ((recs GWindow.cells) r38.1), .row A46 n47 c48 39 2 ((recs GWindow.cells) r44.1)] := hs.join hs1
    clear hs1
    refine sY hf hs rfl rfl rfl (Y_move rfl rfl) ?_; clear hf; intro a hf
    refine sY hf hs rfl rfl rfl (Y_extract rfl rfl rfl) ?_; clear hf; intro a hf
    refine sY hf hs rfl rfl rfl (Y_extract rfl rfl rfl) ?_; clear hf; intro a hf
    refine sY hf hs rfl rfl rfl (Y_assign rfl rfl) ?_; clear hf; intro a hf
    refine sY hf hs rfl rfl rfl (Y_assign rfl rfl) ?_; clear hf; intro a hf
    refine wpO_nil ?_
    refine wpL_seq ?_
    refine wpL_region ?_
    refine sY hf hs rfl rfl rfl (Y_move rfl rfl) ?_; clear hf; intro a hf
    obtain ⟨r50, hc51, hm⟩ := bind_some hm
    refine sCall hf rfl rfl rfl rfl (cap := []) rfl rfl en17 (spec_DrawIsWindowSolution_ok F p0 A_p0_1 p0.length c_p0_1 rfl _ _ hc51 (h_p0_1.at hs)) ?_; clear hf
    rintro _ w ⟨A52, n53, c54, A56, n57, c58, A60, n61, c62, rfl, hn55, hn59, hn63, hs1⟩ a hf
    have hs : St [] W w [.row A6 n7 c8 39 2 ((recs GWindow.cells) r4.1), .row A10 n11 c12 95 3 ((recs GBond.cells) r4.2), .row A16 n17 c18 2 1 (ints r14.1), .row A22 n23 c24 2 1 (ints r20.1), .row A28 n29 c30 2 1 (ints r26.1), .row A34 n35 c36 2 1 (ints r32.1), .row A40 n41 c42 39 2 ((recs GWindow.cells) r38.1), .row A46 n47 c48 39 2 ((recs GWindow.cells) r44.1), .row A52 n53 c54 39 2 ((recs GWindow.cells) r50.1), .row A56 n57 c58 95 3 ((recs GBond.cells) r50.2.1), .row A60 n61 c62 2 1 (ints r50.2.2)] := hs.join hs1
    clear hs1
    refine sY hf hs rfl rfl rfl (Y_move rfl rfl) ?_; clear hf; intro a hf
    refine sY hf hs rfl rfl rfl (Y_extract rfl rfl rfl) ?_; clear hf; intro a hf
    refine sY hf hs rfl rfl rfl (Y_extract rfl rfl rfl) ?_; clear hf; intro a hf
    refine sY hf hs rfl rfl rfl (Y_extract rfl rfl rfl) ?_; clear hf; intro a hf
    refine sY hf hs rfl rfl rfl (Y_assign rfl rfl) ?_; clear hf; intro a hf
    refine sY hf hs rfl rfl rfl (Y_assign rfl rfl) ?_; clear hf; intro a hf
    refine sY hf hs rfl rfl rfl (Y_assign rfl rfl) ?_; clear hf; intro a hf
    refine wpO_nil ?_
    refine wpL_seq ?_
    refine wpL_region ?_
    refine sY hf hs rfl rfl rfl (Y_move rfl rfl) ?_; clear hf; intro a hf
    refine sY hf hs rfl rfl rfl (Y_move rfl rfl) ?_; clear hf; intro a hf
    refine sY hf hs rfl rfl rfl (Y_move rfl rfl) ?_; clear hf; intro a hf
    obtain ⟨r64, hc65, hm⟩ := bind_some hm
    refine sCall hf rfl rfl rfl rfl (cap := []) rfl rfl en18 (impl_IsWindowSolution_ok F r50.1 A52 n53 c54 hn55 r50.2.1 A56 n57 c58 hn59 r50.2.2 A60 n61 c62 hn63 _ _ hc65 (hs.rd (i := 8) rfl) (hs.rd (i := 9) rfl) (hs.rd (i := 10) rfl)) ?_; clear hf
    rintro _ w ⟨rfl, hs1⟩ a hf
    have hs : St [] W w [.row A6 n7 c8 39 2 ((recs GWindow.cells) r4.1), .row A10 n11 c12 95 3 ((recs GBond.cells) r4.2), .row A16 n17 c18 2 1 (ints r14.1), .row A22 n23 c24 2 1 (ints r20.1), .row A28 n29 c30 2 1 (ints r26.1), .row A34 n35 c36 2 1 (ints r32.1), .row A40 n41 c42 39 2 ((recs GWindow.cells) r38.1), .row A46 n47 c48 39 2 ((recs GWindow.cells) r44.1), .row A52 n53 c54 39 2 ((recs GWindow.cells) r50.1), .row A56 n57 c58 95 3 ((recs GBond.cells) r50.2.1), .row A60 n61 c62 2 1 (ints r50.2.2)] := hs.ext hs1.below
    clear hs1
    refine sY hf hs rfl rfl rfl (Y_assign rfl rfl) ?_; clear hf; intro a hf
    refine wpO_nil ?_
    refine wpL_seq ?_
    refine wpL_region ?_
    refine sY hf hs rfl rfl rfl (Y_move rfl rfl) ?_; clear hf; intro a hf
    refine sY hf hs rfl rfl rfl (Y_move rfl rfl) ?_; clear hf; intro a hf
    refine sY hf hs rfl rfl rfl (Y_move rfl rfl) ?_; clear hf; intro a hf
    obtain ⟨r66, hc67, hm⟩ := bind_some hm
    refine sCall hf rfl rfl rfl rfl (cap := []) rfl rfl en19 (impl_SlackOfBonds_ok F r50.1 A52 n53 c54 hn55 r50.2.1 A56 n57 c58 hn59 r50.2.2 A60 n61 c62 hn63 _ _ hc67 (hs.rd (i := 8) rfl) (hs.rd (i := 9) rfl) (hs.rd (i := 10) rfl)) ?_; clear hf
    rintro _ w ⟨A68, n69, c70, rfl, hn71, hs1⟩ a hf
    have hs : St [] W w [.row A6 n7 c8 39 2 ((recs GWindow.cells) r4.1), .row A10 n11 c12 95 3 ((recs GBond.cells) r4.2), .row A16 n17 c18 2 1 (ints r14.1), .row A22 n23 c24 2 1 (ints r20.1), .row A28 n29 c30 2 1 (ints r26.1), .row A34 n35 c36 2 1 (ints r32.1), .row A40 n41 c42 39 2 ((recs GWindow.cells) r38.1), .row A46 n47 c48 39 2 ((recs GWindow.cells) r44.1), .row A52 n53 c54 39 2 ((recs GWindow.cells) r50.1), .row A56 n57 c58 95 3 ((recs GBond.cells) r50.2.1), .row A60 n61 c62 2 1 (ints r50.2.2), .row A68 n69 c70 2 1 (ints r66.1)] := hs.join hs1
    clear hs1
    refine sY hf hs rfl rfl rfl (Y_move rfl rfl) ?_; clear hf; intro a hf
    refine sY hf hs rfl rfl rfl (Y_extract rfl rfl rfl) ?_; clear hf; intro a hf
    refine sY hf hs rfl rfl rfl (Y_extract rfl rfl rfl) ?_; clear hf; intro a hf
    refine sY hf hs rfl rfl rfl (Y_assign rfl rfl) ?_; clear hf; intro a hf
    refine sY hf hs rfl rfl rfl (Y_assign rfl rfl) ?_; clear hf; intro a hf
    refine wpO_nil ?_
    refine wpL_seq ?_
    refine wpL_region ?_
    refine sY hf hs rfl rfl rfl (Y_move rfl rfl) ?_; clear hf; intro a hf
    refine sY hf hs rfl rfl rfl (Y_move rfl rfl) ?_; clear hf; intro a hf
    refine sY hf hs rfl rfl rfl (Y_move rfl rfl) ?_; clear hf; intro a hf
    obtain ⟨r72, hc73, hm⟩ := bind_some hm
    refine sCall hf rfl rfl rfl rfl (cap := []) rfl rfl en20 (spec_SlackOfBonds_ok F r50.1 A52 n53 c54 hn55 r50.2.1 A56 n57 c58 hn59 r50.2.2 A60 n61 c62 hn63 _ _ hc73 (hs.rd (i := 8) rfl) (hs.rd (i := 9) rfl) (hs.rd (i := 10) rfl)) ?_; clear hf
    rintro _ w ⟨A74, n75, c76, rfl, hn77, hs1⟩ a hf
    have hs : St [] W w [.row A6 n7 c8 39 2 ((recs GWindow.cells) r4.1), .row A10 n11 c12 95 3 ((recs GBond.cells) r4.2), .row A16 n17 c18 2 1 (ints r14.1), .row A22 n23 c24 2 1 (ints r20.1), .row A28 n29 c30 2 1 (ints r26.1), .row A34 n35 c36 2 1 (ints r32.1), .row A40 n41 c42 39 2 ((recs GWindow.cells) r38.1), .row A46 n47 c48 39 2 ((recs GWindow.cells) r44.1), .row A52 n53 c54 39 2 ((recs GWindow.cells) r50.1), .row A56 n57 c58 95 3 ((recs GBond.cells) r50.2.1), .row A60 n61 c62 2 1 (ints r50.2.2), .row A68 n69 c70 2 1 (ints r66.1), .row A74 n75 c76 2 1 (ints r72.1)] := hs.join hs1
    clear hs1
    refine sY hf hs rfl rfl rfl (Y_move rfl rfl) ?_; clear hf; intro a hf
    refine sY hf hs rfl rfl rfl (Y_extract rfl rfl rfl) ?_; clear hf; intro a hf
    refine sY hf hs rfl rfl rfl (Y_extract rfl rfl rfl) ?_; clear hf; intro a hf
    refine sY hf hs rfl rfl rfl (Y_assign rfl rfl) ?_; clear hf; intro a hf
    refine sY hf hs rfl rfl rfl (Y_assign rfl rfl) ?_; clear hf; intro a hf
    refine wpO_nil ?_
    refine wpL_seq ?_
    refine wpL_seq ?_
    obtain ⟨r97, hj98, hm⟩ := bind_some hm
    refine wpL_cut (fun a w => ∃ b96 : Bool, b96 = r97 ∧ Fr a 252 [(3, .slice A6 n7 c8), (4, .slice A10 n11 c12), (5, .slice A16 n17 c18), (6, .int .i64 r14.2), (9, .slice A28 n29 c30), (13, .slice A40 n41 c42), (17, .slice A52 n53 c54), (18, .slice A56 n57 c58), (19, .slice A60 n61 c62), (20, .bool r64), (21, .slice A68 n69 c70), (22, .int .i64 r66.2), (158, .bool b96)] ∧ St [] W w [.row A6 n7 c8 39 2 ((recs GWindow.cells) r4.1), .row A10 n11 c12 95 3 ((recs GBond.cells) r4.2), .row A16 n17 c18 2 1 (ints r14.1), .row A28 n29 c30 2 1 (ints r26.1), .row A40 n41 c42 39 2 ((recs GWindow.cells) r38.1), .row A52 n53 c54 39 2 ((recs GWindow.cells) r50.1), .row A56 n57 c58 95 3 ((recs GBond.cells) r50.2.1), .row A60 n61 c62 2 1 (ints r50.2.2), .row A68 n69 c70 2 1 (ints r66.1)]) ?_ ?_
    · refine wpL_region ?_
      refine sY hf hs rfl rfl rfl (Y_move rfl rfl) ?_; clear hf; intro a hf
      refine sY hf hs rfl rfl rfl (Y_move rfl rfl) ?_; clear hf; intro a hf
      refine sY hf hs rfl rfl rfl (Y_neq rfl rfl rfl) ?_; clear hf; intro a hf
      refine sY hf hs rfl rfl rfl (Y_move rfl rfl) ?_; clear hf; intro a hf
      refine bsplit (r14.2 != r20.2) (fun hb99 => ?_) (fun hb99 => ?_)
      · have hj98 := bif_t hj98 hb99
        refine sNo hf rfl rfl rfl (congrArg (fun b => some (Value.bool b)) hb99) rfl rfl rfl ?_; clear hf; intro a hf
        refine sNo hf rfl rfl rfl (congrArg (fun b => some (Value.bool b)) hb99) rfl rfl rfl ?_; clear hf; intro a hf
        refine sNo hf rfl rfl rfl (congrArg (fun b => some (Value.bool b)) hb99) rfl rfl rfl ?_; clear hf; intro a hf
        refine sNo hf rfl rfl rfl (congrArg (fun b => some (Value.bool b)) hb99) rfl rfl rfl ?_; clear hf; intro a hf
        refine sY hf hs rfl rfl rfl (Y_pickT rfl (congrArg (fun b => some (Value.bool b)) hb99) rfl) ?_; clear hf; intro a hf
        refine sY hf hs rfl rfl rfl (Y_move rfl rfl) ?_; clear hf; intro a hf
        refine sNo hf rfl rfl rfl rfl rfl rfl rfl ?_; clear hf; intro a hf
        refine sNo hf rfl rfl rfl rfl rfl rfl rfl ?_; clear hf; intro a hf
        refine sNo hf rfl rfl rfl rfl rfl rfl rfl ?_; clear hf; intro a hf
        refine sY hf hs rfl rfl rfl (Y_pickT rfl rfl rfl) ?_; clear hf; intro a hf
        refine sY hf hs rfl rfl rfl (Y_move rfl rfl) ?_; clear hf; intro a hf
        refine sNo hf rfl rfl rfl rfl rfl rfl rfl ?_; clear hf; intro a hf
        refine sNo hf rfl rfl rfl rfl rfl rfl rfl ?_; clear hf; intro a hf
        refine sNo hf rfl rfl rfl rfl rfl rfl rfl ?_; clear hf; intro a hf
        refine sNo hf rfl rfl rfl rfl rfl rfl rfl ?_; clear hf; intro a hf
        refine sY hf hs rfl rfl rfl (Y_pickT rfl rfl rfl) ?_; clear hf; intro a hf
        refine sY hf hs rfl rfl rfl (Y_move rfl rfl) ?_; clear hf; intro a hf
        refine sNo hf rfl rfl rfl rfl rfl rfl rfl ?_; clear hf; intro a hf
        refine sNo hf rfl rfl rfl rfl rfl rfl rfl ?_; clear hf; intro a hf
        refine sNo hf rfl rfl rfl rfl rfl rfl rfl ?_; clear hf; intro a hf
        refine sY hf hs rfl rfl rfl (Y_pickT rfl rfl rfl) ?_; clear hf; intro a hf
        refine sY hf hs rfl rfl rfl (Y_move rfl rfl) ?_; clear hf; intro a hf
        refine sNo hf rfl rfl rfl rfl rfl rfl rfl ?_; clear hf; intro a hf
        refine sNo hf rfl rfl rfl rfl rfl rfl rfl ?_; clear hf; intro a hf
        refine sNo hf rfl rfl rfl rfl rfl rfl rfl ?_; clear hf; intro a hf
        refine sNo hf rfl rfl rfl rfl rfl rfl rfl ?_; clear hf; intro a hf
        refine sNo hf rfl rfl rfl rfl rfl rfl rfl ?_; clear hf; intro a hf
        refine sY hf hs rfl rfl rfl (Y_pickT rfl rfl rfl) ?_; clear hf; intro a hf
        refine sY hf hs rfl rfl rfl (Y_move rfl rfl) ?_; clear hf; intro a hf
        refine sNo hf rfl rfl rfl rfl rfl rfl rfl ?_; clear hf; intro a hf
        refine sNo hf rfl rfl rfl rfl rfl rfl rfl ?_; clear hf; intro a hf
        refine sNo hf rfl rfl rfl rfl rfl rfl rfl ?_; clear hf; intro a hf
        refine sNo hf rfl rfl rfl rfl rfl rfl rfl ?_; clear hf; intro a hf
        refine sNo hf rfl rfl rfl rfl rfl rfl rfl ?_; clear hf; intro a hf
        refine sNo hf rfl rfl rfl rfl rfl rfl rfl ?_; clear hf; intro a hf
        refine sY hf hs rfl rfl rfl (Y_pickT rfl rfl rfl) ?_; clear hf; intro a hf
        refine sY hf hs rfl rfl rfl (Y_move rfl rfl) ?_; clear hf; intro a hf
        refine sNo hf rfl rfl rfl rfl rfl rfl rfl ?_; clear hf; intro a hf
        refine sNo hf rfl rfl rfl rfl rfl rfl rfl ?_; clear hf; intro a hf
        refine sNo hf rfl rfl rfl rfl rfl rfl rfl ?_; clear hf; intro a hf
        refine sY hf hs rfl rfl rfl (Y_pickT rfl rfl rfl) ?_; clear hf; intro a hf
        refine sY hf hs rfl rfl rfl (Y_move rfl rfl) ?_; clear hf; intro a hf
        refine sNo hf rfl rfl rfl rfl rfl rfl rfl ?_; clear hf; intro a hf
        refine sNo hf rfl rfl rfl rfl rfl rfl rfl ?_; clear hf; intro a hf
        refine sNo hf rfl rfl rfl rfl rfl rfl rfl ?_; clear hf; intro a hf
        refine sNo hf rfl rfl rfl rfl rfl rfl rfl ?_; clear hf; intro a hf
        refine sY hf hs rfl rfl rfl (Y_pickT rfl rfl rfl) ?_; clear hf; intro a hf
        refine sY hf hs rfl rfl rfl (Y_move rfl rfl) ?_; clear hf; intro a hf
        refine sNo hf rfl rfl rfl rfl rfl rfl rfl ?_; clear hf; intro a hf
        refine sNo hf rfl rfl rfl rfl rfl rfl rfl ?_; clear hf; intro a hf
        refine sNo hf rfl rfl rfl rfl rfl rfl rfl ?_; clear hf; intro a hf
        refine sY hf hs rfl rfl rfl (Y_pickT rfl rfl rfl) ?_; clear hf; intro a hf
        refine sY hf hs rfl rfl rfl (Y_move rfl rfl) ?_; clear hf; intro a hf
        refine sNo hf rfl rfl rfl rfl rfl rfl rfl ?_; clear hf; intro a hf
        refine sNo hf rfl rfl rfl rfl rfl rfl rfl ?_; clear hf; intro a hf
        refine sNo hf rfl rfl rfl rfl rfl rfl rfl ?_; clear hf; intro a hf
        refine sY hf hs rfl rfl rfl (Y_pickT rfl rfl rfl) ?_; clear hf; intro a hf
        refine wpO_nil ?_
        refine wpL_nil (then_normal ?_)
        exact ⟨true, Option.some.inj hj98, (FrD.pick (FrD.pick (FrD.pick (FrD.pick (FrD.pick (FrD.pick (FrD.pick (FrD.pick (FrD.pick (FrD.pick (FrD.pick (FrD.pick (FrD.pick hf.none hf rfl) hf rfl) hf rfl) hf rfl) hf rfl) hf rfl) hf rfl) hf rfl) hf rfl) hf rfl) hf rfl) hf rfl) hf rfl), hs.sel [0, 1, 2, 4, 6, 8, 9, 10, 11] (by decide)⟩
      · have hj98 := bif_f hj98 hb99
        refine sYg hf hs rfl rfl rfl (congrArg (fun b => some (Value.bool b)) hb99) rfl rfl rfl (Y_move rfl rfl) ?_; clear hf; intro a hf
        refine sYg hf hs rfl rfl rfl (congrArg (fun b => some (Value.bool b)) hb99) rfl rfl rfl (Y_move rfl rfl) ?_; clear hf; intro a hf
        obtain ⟨r100, hc101, hj98⟩ := bind_some hj98
        refine sCallg hf rfl rfl rfl (congrArg (fun b => some (Value.bool b)) hb99) rfl rfl rfl rfl (cap := []) rfl rfl en21 (laws_likeInts_ok F r14.1 A16 n17 c18 hn19 r20.1 A22 n23 c24 hn25 _ _ hc101 (hs.rd (i := 2) rfl) (hs.rd (i := 3) rfl)) ?_; clear hf
        rintro _ w ⟨rfl, hs1⟩ a hf
        have hs : St [] W w [.row A6 n7 c8 39 2 ((recs GWindow.cells) r4.1), .row A10 n11 c12 95 3 ((recs GBond.cells) r4.2), .row A16 n17 c18 2 1 (ints r14.1), .row A22 n23 c24 2 1 (ints r20.1), .row A28 n29 c30 2 1 (ints r26.1), .row A34 n35 c36 2 1 (ints r32.1), .row A40 n41 c42 39 2 ((recs GWindow.cells) r38.1), .row A46 n47 c48 39 2 ((recs GWindow.cells) r44.1), .row A52 n53 c54 39 2 ((recs GWindow.cells) r50.1), .row A56 n57 c58 95 3 ((recs GBond.cells) r50.2.1), .row A60 n61 c62 2 1 (ints r50.2.2), .row A68 n69 c70 2 1 (ints r66.1), .row A74 n75 c76 2 1 (ints r72.1)] := hs.ext hs1.below
        clear hs1
        refine sYg hf hs rfl rfl rfl (congrArg (fun b => some (Value.bool b)) hb99) rfl rfl rfl (Y_not rfl rfl) ?_; clear hf; intro a hf
        refine sY hf hs rfl rfl rfl (Y_pickF rfl (congrArg (fun b => some (Value.bool b)) hb99) rfl) ?_; clear hf; intro a hf
        refine sY hf hs rfl rfl rfl (Y_move rfl rfl) ?_; clear hf; intro a hf
        refine bsplit (!r100) (fun hb102 => ?_) (fun hb102 => ?_)
        · have hj98 := bif_t hj98 hb102
          refine sNo hf rfl rfl rfl (congrArg (fun b => some (Value.bool b)) hb102) rfl rfl rfl ?_; clear hf; intro a hf
          refine sNo hf rfl rfl rfl (congrArg (fun b => some (Value.bool b)) hb102) rfl rfl rfl ?_; clear hf; intro a hf
          refine sNo hf rfl rfl rfl (congrArg (fun b => some (Value.bool b)) hb102) rfl rfl rfl ?_; clear hf; intro a hf
          refine sY hf hs rfl rfl rfl (Y_pickT rfl (congrArg (fun b => some (Value.bool b)) hb102) rfl) ?_; clear hf; intro a hf
          refine sY hf hs rfl rfl rfl (Y_move rfl rfl) ?_; clear hf; intro a hf
          refine sNo hf rfl rfl rfl rfl rfl rfl rfl ?_; clear hf; intro a hf
          refine sNo hf rfl rfl rfl rfl rfl rfl rfl ?_; clear hf; intro a hf
          refine sNo hf rfl rfl rfl rfl rfl rfl rfl ?_; clear hf; intro a hf
          refine sNo hf rfl rfl rfl rfl rfl rfl rfl ?_; clear hf; intro a hf
          refine sY hf hs rfl rfl rfl (Y_pickT rfl rfl rfl) ?_; clear hf; intro a hf
          refine sY hf hs rfl rfl rfl (Y_move rfl rfl) ?_; clear hf; intro a hf
          refine sNo hf rfl rfl rfl rfl rfl rfl rfl ?_; clear hf; intro a hf
          refine sNo hf rfl rfl rfl rfl rfl rfl rfl ?_; clear hf; intro a hf
          refine sNo hf rfl rfl rfl rfl rfl rfl rfl ?_; clear hf; intro a hf
          refine sY hf hs rfl rfl rfl (Y_pickT rfl rfl rfl) ?_; clear hf; intro a hf
          refine sY hf hs rfl rfl rfl (Y_move rfl rfl) ?_; clear hf; intro a hf
          refine sNo hf rfl rfl rfl rfl rfl rfl rfl ?_; clear hf; intro a hf
          refine sNo hf rfl rfl rfl rfl rfl rfl rfl ?_; clear hf; intro a hf
          refine sNo hf rfl rfl rfl rfl rfl rfl rfl ?_; clear hf; intro a hf
          refine sNo hf rfl rfl rfl rfl rfl rfl rfl ?_; clear hf; intro a hf
          refine sNo hf rfl rfl rfl rfl rfl rfl rfl ?_; clear hf; intro a hf
          refine sY hf hs rfl rfl rfl (Y_pickT rfl rfl rfl) ?_; clear hf; intro a hf
          refine sY hf hs rfl rfl rfl (Y_move rfl rfl) ?_; clear hf; intro a hf
          refine sNo hf rfl rfl rfl rfl rfl rfl rfl ?_; clear hf; intro a hf
          refine sNo hf rfl rfl rfl rfl rfl rfl rfl ?_; clear hf; intro a hf
          refine sNo hf rfl rfl rfl rfl rfl rfl rfl ?_; clear hf; intro a hf
          refine sNo hf rfl rfl rfl rfl rfl rfl rfl ?_; clear hf; intro a hf
          refine sNo hf rfl rfl rfl rfl rfl rfl rfl ?_; clear hf; intro a hf
          refine sNo hf rfl rfl rfl rfl rfl rfl rfl ?_; clear hf; intro a hf
          refine sY hf hs rfl rfl rfl (Y_pickT rfl rfl rfl) ?_; clear hf; intro a hf
          refine sY hf hs rfl rfl rfl (Y_move rfl rfl) ?_; clear hf; intro a hf
          refine sNo hf rfl rfl rfl rfl rfl rfl rfl ?_; clear hf; intro a hf
          refine sNo hf rfl rfl rfl rfl rfl rfl rfl ?_; clear hf; intro a hf
          refine sNo hf rfl rfl rfl rfl rfl rfl rfl ?_; clear hf; intro a hf
          refine sY hf hs rfl rfl rfl (Y_pickT rfl rfl rfl) ?_; clear hf; intro a hf
          refine sY hf hs rfl rfl rfl (Y_move rfl rfl) ?_; clear hf; intro a hf
          refine sNo hf rfl rfl rfl rfl rfl rfl rfl ?_; clear hf; intro a hf
          refine sNo hf rfl rfl rfl rfl rfl rfl rfl ?_; clear hf; intro a hf
          refine sNo hf rfl rfl rfl rfl rfl rfl rfl ?_; clear hf; intro a hf
          refine sNo hf rfl rfl rfl rfl rfl rfl rfl ?_; clear hf; intro a hf
          refine sY hf hs rfl rfl rfl (Y_pickT rfl rfl rfl) ?_; clear hf; intro a hf
          refine sY hf hs rfl rfl rfl (Y_move rfl rfl) ?_; clear hf; intro a hf
          refine sNo hf rfl rfl rfl rfl rfl rfl rfl ?_; clear hf; intro a hf
          refine sNo hf rfl rfl rfl rfl rfl rfl rfl ?_; clear hf; intro a hf
          refine sNo hf rfl rfl rfl rfl rfl rfl rfl ?_; clear hf; intro a hf
          refine sY hf hs rfl rfl rfl (Y_pickT rfl rfl rfl) ?_; clear hf; intro a hf
          refine sY hf hs rfl rfl rfl (Y_move rfl rfl) ?_; clear hf; intro a hf
          refine sNo hf rfl rfl rfl rfl rfl rfl rfl ?_; clear hf; intro a hf
          refine sNo hf rfl rfl rfl rfl rfl rfl rfl ?_; clear hf; intro a hf
          refine sNo hf rfl rfl rfl rfl rfl rfl rfl ?_; clear hf; intro a hf
          refine sY hf hs rfl rfl rfl (Y_pickT rfl rfl rfl) ?_; clear hf; intro a hf
          refine wpO_nil ?_
          refine wpL_nil (then_normal ?_)
          exact ⟨true, Option.some.inj hj98, (FrD.pick (FrD.pick (FrD.pick (FrD.pick (FrD.pick (FrD.pick (FrD.pick (FrD.pick (FrD.pick (FrD.pick (FrD.pick (FrD.pick (FrD.pick hf.none hf rfl) hf rfl) hf rfl) hf rfl) hf rfl) hf rfl) hf rfl) hf rfl) hf rfl) hf rfl) hf rfl) hf rfl) hf rfl), hs.sel [0, 1, 2, 4, 6, 8, 9, 10, 11] (by decide)⟩
        · have hj98 := bif_f hj98 hb102
          refine sYg hf hs rfl rfl rfl (congrArg (fun b => some (Value.bool b)) hb102) rfl rfl rfl (Y_move rfl rfl) ?_; clear hf; intro a hf
          refine sYg hf hs rfl rfl rfl (congrArg (fun b => some (Value.bool b)) hb102) rfl rfl rfl (Y_move rfl rfl) ?_; clear hf; intro a hf
          refine sYg hf hs rfl rfl rfl (congrArg (fun b => some (Value.bool b)) hb102) rfl rfl rfl (Y_neq rfl rfl rfl) ?_; clear hf; intro a hf
          refine sY hf hs rfl rfl rfl (Y_pickF rfl (congrArg (fun b => some (Value.bool b)) hb102) rfl) ?_; clear hf; intro a hf
          refine sY hf hs rfl rfl rfl (Y_move rfl rfl) ?_; clear hf; intro a hf
          refine bsplit (r26.2 != r32.2) (fun hb103 => ?_) (fun hb103 => ?_)
          · have hj98 := bif_t hj98 hb103
            refine sNo hf rfl rfl rfl (congrArg (fun b => some (Value.bool b)) hb103) rfl rfl rfl ?_; clear hf; intro a hf
            refine sNo hf rfl rfl rfl (congrArg (fun b => some (Value.bool b)) hb103) rfl rfl rfl ?_; clear hf; intro a hf
            refine sNo hf rfl rfl rfl (congrArg (fun b => some (Value.bool b)) hb103) rfl rfl rfl ?_; clear hf; intro a hf
            refine sNo hf rfl rfl rfl (congrArg (fun b => some (Value.bool b)) hb103) rfl rfl rfl ?_; clear hf; intro a hf
            refine sY hf hs rfl rfl rfl (Y_pickT rfl (congrArg (fun b => some (Value.bool b)) hb103) rfl) ?_; clear hf; intro a hf
            refine sY hf hs rfl rfl rfl (Y_move rfl rfl) ?_; clear hf; intro a hf
            refine sNo hf rfl rfl rfl rfl rfl rfl rfl ?_; clear hf; intro a hf
            refine sNo hf rfl rfl rfl rfl rfl rfl rfl ?_; clear hf; intro a hf
            refine sNo hf rfl rfl rfl rfl rfl rfl rfl ?_; clear hf; intro a hf
            refine sY hf hs rfl rfl rfl (Y_pickT rfl rfl rfl) ?_; clear hf; intro a hf
            refine sY hf hs rfl rfl rfl (Y_move rfl rfl) ?_; clear hf; intro a hf
            refine sNo hf rfl rfl rfl rfl rfl rfl rfl ?_; clear hf; intro a hf
            refine sNo hf rfl rfl rfl rfl rfl rfl rfl ?_; clear hf; intro a hf
            refine sNo hf rfl rfl rfl rfl rfl rfl rfl ?_; clear hf; intro a hf
            refine sNo hf rfl rfl rfl rfl rfl rfl rfl ?_; clear hf; intro a hf
            refine sNo hf rfl rfl rfl rfl rfl rfl rfl ?_; clear hf; intro a hf
            refine sY hf hs rfl rfl rfl (Y_pickT rfl rfl rfl) ?_; clear hf; intro a hf
            refine sY hf hs rfl rfl rfl (Y_move rfl rfl) ?_; clear hf; intro a hf
            refine sNo hf rfl rfl rfl rfl rfl rfl rfl ?_; clear hf; intro a hf
            refine sNo hf rfl rfl rfl rfl rfl rfl rfl ?_; clear hf; intro a hf
            refine sNo hf rfl rfl rfl rfl rfl rfl rfl ?_; clear hf; intro a hf
            refine sNo hf rfl rfl rfl rfl rfl rfl rfl ?_; clear hf; intro a hf
            refine sNo hf rfl rfl rfl rfl rfl rfl rfl ?_; clear hf; intro a hf
            refine sNo hf rfl rfl rfl rfl rfl rfl rfl ?_; clear hf; intro a hf
            refine sY hf hs rfl rfl rfl (Y_pickT rfl rfl rfl) ?_; clear hf; intro a hf
            refine sY hf hs rfl rfl rfl (Y_move rfl rfl) ?_; clear hf; intro a hf
            refine sNo hf rfl rfl rfl rfl rfl rfl rfl ?_; clear hf; intro a hf
            refine sNo hf rfl rfl rfl rfl rfl rfl rfl ?_; clear hf; intro a hf
            refine sNo hf rfl rfl rfl rfl rfl rfl rfl ?_; clear hf; intro a hf
            refine sY hf hs rfl rfl rfl (Y_pickT rfl rfl rfl) ?_; clear hf; intro a hf
            refine sY hf hs rfl rfl rfl (Y_move rfl rfl) ?_; clear hf; intro a hf
            refine sNo hf rfl rfl rfl rfl rfl rfl rfl ?_; clear hf; intro a hf
            refine sNo hf rfl rfl rfl rfl rfl rfl rfl ?_; clear hf; intro a hf
            refine sNo hf rfl rfl rfl rfl rfl rfl rfl ?_; clear hf; intro a hf
            refine sNo hf rfl rfl rfl rfl rfl rfl rfl ?_; clear hf; intro a hf
            refine sY hf hs rfl rfl rfl (Y_pickT rfl rfl rfl) ?_; clear hf; intro a hf
            refine sY hf hs rfl rfl rfl (Y_move rfl rfl) ?_; clear hf; intro a hf
            refine sNo hf rfl rfl rfl rfl rfl rfl rfl ?_; clear hf; intro a hf
            refine sNo hf rfl rfl rfl rfl rfl rfl rfl ?_; clear hf; intro a hf
            refine sNo hf rfl rfl rfl rfl rfl rfl rfl ?_; clear hf; intro a hf
            refine sY hf hs rfl rfl rfl (Y_pickT rfl rfl rfl) ?_; clear hf; intro a hf
            refine sY hf hs rfl rfl rfl (Y_move rfl rfl) ?_; clear hf; intro a hf
            refine sNo hf rfl rfl rfl rfl rfl rfl rfl ?_; clear hf; intro a hf
            refine sNo hf rfl rfl rfl rfl rfl rfl rfl ?_; clear hf; intro a hf
            refine sNo hf rfl rfl rfl rfl rfl rfl rfl ?_; clear hf; intro a hf
            refine sY hf hs rfl rfl rfl (Y_pickT rfl rfl rfl) ?_; clear hf; intro a hf
            refine wpO_nil ?_
            refine wpL_nil (then_normal ?_)
            exact ⟨true, Option.some.inj hj98, (FrD.pick (FrD.pick (FrD.pick (FrD.pick (FrD.pick (FrD.pick (FrD.pick (FrD.pick (FrD.pick (FrD.pick (FrD.pick (FrD.pick (FrD.pick hf.none hf rfl) hf rfl) hf rfl) hf rfl) hf rfl) hf rfl) hf rfl) hf rfl) hf rfl) hf rfl) hf rfl) hf rfl) hf rfl), hs.sel [0, 1, 2, 4, 6, 8, 9, 10, 11] (by decide)⟩
          · have hj98 := bif_f hj98 hb103
            refine sYg hf hs rfl rfl rfl (congrArg (fun b => some (Value.bool b)) hb103) rfl rfl rfl (Y_move rfl rfl) ?_; clear hf; intro a hf
            refine sYg hf hs rfl rfl rfl (congrArg (fun b => some (Value.bool b)) hb103) rfl rfl rfl (Y_move rfl rfl) ?_; clear hf; intro a hf
            obtain ⟨r104, hc105, hj98⟩ := bind_some hj98
            refine sCallg hf rfl rfl rfl (congrArg (fun b => some (Value.bool b)) hb103) rfl rfl rfl rfl (cap := []) rfl rfl en21 (laws_likeInts_ok F r26.1 A28 n29 c30 hn31 r32.1 A34 n35 c36 hn37 _ _ hc105 (hs.rd (i := 4) rfl) (hs.rd (i := 5) rfl)) ?_; clear hf
            rintro _ w ⟨rfl, hs1⟩ a hf
            have hs : St [] W w [.row A6 n7 c8 39 2 ((recs GWindow.cells) r4.1), .row A10 n11 c12 95 3 ((recs GBond.cells) r4.2), .row A16 n17 c18 2 1 (ints r14.1), .row A22 n23 c24 2 1 (ints r20.1), .row A28 n29 c30 2 1 (ints r26.1), .row A34 n35 c36 2 1 (ints r32.1), .row A40 n41 c42 39 2 ((recs GWindow.cells) r38.1), .row A46 n47 c48 39 2 ((recs GWindow.cells) r44.1), .row A52 n53 c54 39 2 ((recs GWindow.cells) r50.1), .row A56 n57 c58 95 3 ((recs GBond.cells) r50.2.1), .row A60 n61 c62 2 1 (ints r50.2.2), .row A68 n69 c70 2 1 (ints r66.1), .row A74 n75 c76 2 1 (ints r72.1)] := hs.ext hs1.below
            clear hs1
            refine sYg hf hs rfl rfl rfl (congrArg (fun b => some (Value.bool b)) hb103) rfl rfl rfl (Y_not rfl rfl) ?_; clear hf; intro a hf
            refine sY hf hs rfl rfl rfl (Y_pickF rfl (congrArg (fun b => some (Value.bool b)) hb103) rfl) ?_; clear hf; intro a hf
            refine sY hf hs rfl rfl rfl (Y_move rfl rfl) ?_; clear hf; intro a hf
            refine bsplit (!r104) (fun hb106 => ?_) (fun hb106 => ?_)
            · have hj98 := bif_t hj98 hb106
              refine sNo hf rfl rfl rfl (congrArg (fun b => some (Value.bool b)) hb106) rfl rfl rfl ?_; clear hf; intro a hf
              refine sNo hf rfl rfl rfl (congrArg (fun b => some (Value.bool b)) hb106) rfl rfl rfl ?_; clear hf; intro a hf
              refine sNo hf rfl rfl rfl (congrArg (fun b => some (Value.bool b)) hb106) rfl rfl rfl ?_; clear hf; intro a hf
              refine sY hf hs rfl rfl rfl (Y_pickT rfl (congrArg (fun b => some (Value.bool b)) hb106) rfl) ?_; clear hf; intro a hf
              refine sY hf hs rfl rfl rfl (Y_move rfl rfl) ?_; clear hf; intro a hf
              refine sNo hf rfl rfl rfl rfl rfl rfl rfl ?_; clear hf; intro a hf
              refine sNo hf rfl rfl rfl rfl rfl rfl rfl ?_; clear hf; intro a hf
              refine sNo hf rfl rfl rfl rfl rfl rfl rfl ?_; clear hf; intro a hf
              refine sNo hf rfl rfl rfl rfl rfl rfl rfl ?_; clear hf; intro a hf
              refine sNo hf rfl rfl rfl rfl rfl rfl rfl ?_; clear hf; intro a hf
              refine sY hf hs rfl rfl rfl (Y_pickT rfl rfl rfl) ?_; clear hf; intro a hf
              refine sY hf hs rfl rfl rfl (Y_move rfl rfl) ?_; clear hf; intro a hf
              refine sNo hf rfl rfl rfl rfl rfl rfl rfl ?_; clear hf; intro a hf
              refine sNo hf rfl rfl rfl rfl rfl rfl rfl ?_; clear hf; intro a hf
              refine sNo hf rfl rfl rfl rfl rfl rfl rfl ?_; clear hf; intro a hf
              refine sNo hf rfl rfl rfl rfl rfl rfl rfl ?_; clear hf; intro a hf
              refine sNo hf rfl rfl rfl rfl rfl rfl rfl ?_; clear hf; intro a hf
              refine sNo hf rfl rfl rfl rfl rfl rfl rfl ?_; clear hf; intro a hf
              refine sY hf hs rfl rfl rfl (Y_pickT rfl rfl rfl) ?_; clear hf; intro a hf
              refine sY hf hs rfl rfl rfl (Y_move rfl rfl) ?_; clear hf; intro a hf
              refine sNo hf rfl rfl rfl rfl rfl rfl rfl ?_; clear hf; intro a hf
              refine sNo hf rfl rfl rfl rfl rfl rfl rfl ?_; clear hf; intro a hf
              refine sNo hf rfl rfl rfl rfl rfl rfl rfl ?_; clear hf; intro a hf
              refine sY hf hs rfl rfl rfl (Y_pickT rfl rfl rfl) ?_; clear hf; intro a hf
              refine sY hf hs rfl rfl rfl (Y_move rfl rfl) ?_; clear hf; intro a hf
              refine sNo hf rfl rfl rfl rfl rfl rfl rfl ?_; clear hf; intro a hf
              refine sNo hf rfl rfl rfl rfl rfl rfl rfl ?_; clear hf; intro a hf
              refine sNo hf rfl rfl rfl rfl rfl rfl rfl ?_; clear hf; intro a hf
              refine sNo hf rfl rfl rfl rfl rfl rfl rfl ?_; clear hf; intro a hf
              refine sY hf hs rfl rfl rfl (Y_pickT rfl rfl rfl) ?_; clear hf; intro a hf
              refine sY hf hs rfl rfl rfl (Y_move rfl rfl) ?_; clear hf; intro a hf
              refine sNo hf rfl rfl rfl rfl rfl rfl rfl ?_; clear hf; intro a hf
              refine sNo hf rfl rfl rfl rfl rfl rfl rfl ?_; clear hf; intro a hf
              refine sNo hf rfl rfl rfl rfl rfl rfl rfl ?_; clear hf; intro a hf
              refine sY hf hs rfl rfl rfl (Y_pickT rfl rfl rfl) ?_; clear hf; intro a hf
              refine sY hf hs rfl rfl rfl (Y_move rfl rfl) ?_; clear hf; intro a hf
              refine sNo hf rfl rfl rfl rfl rfl rfl rfl ?_; clear hf; intro a hf
              refine sNo hf rfl rfl rfl rfl rfl rfl rfl ?_; clear hf; intro a hf
              refine sNo hf rfl rfl rfl rfl rfl rfl rfl ?_; clear hf; intro a hf
              refine sY hf hs rfl rfl rfl (Y_pickT rfl rfl rfl) ?_; clear hf; intro a hf
              refine wpO_nil ?_
              refine wpL_nil (then_normal ?_)
              exact ⟨true, Option.some.inj hj98, (FrD.pick (FrD.pick (FrD.pick (FrD.pick (FrD.pick (FrD.pick (FrD.pick (FrD.pick (FrD.pick (FrD.pick (FrD.pick (FrD.pick (FrD.pick hf.none hf rfl) hf rfl) hf rfl) hf rfl) hf rfl) hf rfl) hf rfl) hf rfl) hf rfl) hf rfl) hf rfl) hf rfl) hf rfl), hs.sel [0, 1, 2, 4, 6, 8, 9, 10, 11] (by decide)⟩
            · have hj98 := bif_f hj98 hb106
              refine sYg hf hs rfl rfl rfl (congrArg (fun b => some (Value.bool b)) hb106) rfl rfl rfl (Y_move rfl rfl) ?_; clear hf; intro a hf
              refine sYg hf hs rfl rfl rfl (congrArg (fun b => some (Value.bool b)) hb106) rfl rfl rfl (Y_move rfl rfl) ?_; clear hf; intro a hf
              refine sYg hf hs rfl rfl rfl (congrArg (fun b => some (Value.bool b)) hb106) rfl rfl rfl (Y_neq rfl rfl rfl) ?_; clear hf; intro a hf
              refine sY hf hs rfl rfl rfl (Y_pickF rfl (congrArg (fun b => some (Value.bool b)) hb106) rfl) ?_; clear hf; intro a hf
              refine sY hf hs rfl rfl rfl (Y_move rfl rfl) ?_; clear hf; intro a hf
              refine bsplit (r38.2 != r44.2) (fun hb107 => ?_) (fun hb107 => ?_)
              · have hj98 := bif_t hj98 hb107
                refine sNo hf rfl rfl rfl (congrArg (fun b => some (Value.bool b)) hb107) rfl rfl rfl ?_; clear hf; intro a hf
                refine sNo hf rfl rfl rfl (congrArg (fun b => some (Value.bool b)) hb107) rfl rfl rfl ?_; clear hf; intro a hf
                refine sNo hf rfl rfl rfl (congrArg (fun b => some (Value.bool b)) hb107) rfl rfl rfl ?_; clear hf; intro a hf
                refine sNo hf rfl rfl rfl (congrArg (fun b => some (Value.bool b)) hb107) rfl rfl rfl ?_; clear hf; intro a hf
                refine sNo hf rfl rfl rfl (congrArg (fun b => some (Value.bool b)) hb107) rfl rfl rfl ?_; clear hf; intro a hf
                refine sY hf hs rfl rfl rfl (Y_pickT rfl (congrArg (fun b => some (Value.bool b)) hb107) rfl) ?_; clear hf; intro a hf
                refine sY hf hs rfl rfl rfl (Y_move rfl rfl) ?_; clear hf; intro a hf
                refine sNo hf rfl rfl rfl rfl rfl rfl rfl ?_; clear hf; intro a hf
                refine sNo hf rfl rfl rfl rfl rfl rfl rfl ?_; clear hf; intro a hf
                refine sNo hf rfl rfl rfl rfl rfl rfl rfl ?_; clear hf; intro a hf
                refine sNo hf rfl rfl rfl rfl rfl rfl rfl ?_; clear hf; intro a hf
                refine sNo hf rfl rfl rfl rfl rfl rfl rfl ?_; clear hf; intro a hf
                refine sNo hf rfl rfl rfl rfl rfl rfl rfl ?_; clear hf; intro a hf
                refine sY hf hs rfl rfl rfl (Y_pickT rfl rfl rfl) ?_; clear hf; intro a hf
                refine sY hf hs rfl rfl rfl (Y_move rfl rfl) ?_; clear hf; intro a hf
                refine sNo hf rfl rfl rfl rfl rfl rfl rfl ?_; clear hf; intro a hf
                refine sNo hf rfl rfl rfl rfl rfl rfl rfl ?_; clear hf; intro a hf
                refine sNo hf rfl rfl rfl rfl rfl rfl rfl ?_; clear hf; intro a hf
                refine sY hf hs rfl rfl rfl (Y_pickT rfl rfl rfl) ?_; clear hf; intro a hf
                refine sY hf hs rfl rfl rfl (Y_move rfl rfl) ?_; clear hf; intro a hf
                refine sNo hf rfl rfl rfl rfl rfl rfl rfl ?_; clear hf; intro a hf
                refine sNo hf rfl rfl rfl rfl rfl rfl rfl ?_; clear hf; intro a hf
                refine sNo hf rfl rfl rfl rfl rfl rfl rfl ?_; clear hf; intro a hf
                refine sNo hf rfl rfl rfl rfl rfl rfl rfl ?_; clear hf; intro a hf
                refine sY hf hs rfl rfl rfl (Y_pickT rfl rfl rfl) ?_; clear hf; intro a hf
                refine sY hf hs rfl rfl rfl (Y_move rfl rfl) ?_; clear hf; intro a hf
                refine sNo hf rfl rfl rfl rfl rfl rfl rfl ?_; clear hf; intro a hf
                refine sNo hf rfl rfl rfl rfl rfl rfl rfl ?_; clear hf; intro a hf
                refine sNo hf rfl rfl rfl rfl rfl rfl rfl ?_; clear hf; intro a hf
                refine sY hf hs rfl rfl rfl (Y_pickT rfl rfl rfl) ?_; clear hf; intro a hf
                refine sY hf hs rfl rfl rfl (Y_move rfl rfl) ?_; clear hf; intro a hf
                refine sNo hf rfl rfl rfl rfl rfl rfl rfl ?_; clear hf; intro a hf
                refine sNo hf rfl rfl rfl rfl rfl rfl rfl ?_; clear hf; intro a hf
                refine sNo hf rfl rfl rfl rfl rfl rfl rfl ?_; clear hf; intro a hf
                refine sY hf hs rfl rfl rfl (Y_pickT rfl rfl rfl) ?_; clear hf; intro a hf
                refine wpO_nil ?_
                refine wpL_nil (then_normal ?_)
                exact ⟨true, Option.some.inj hj98, (FrD.pick (FrD.pick (FrD.pick (FrD.pick (FrD.pick (FrD.pick (FrD.pick (FrD.pick (FrD.pick (FrD.pick (FrD.pick (FrD.pick (FrD.pick hf.none hf rfl) hf rfl) hf rfl) hf rfl) hf rfl) hf rfl) hf rfl) hf rfl) hf rfl) hf rfl) hf rfl) hf rfl) hf rfl), hs.sel [0, 1, 2, 4, 6, 8, 9, 10, 11] (by decide)⟩
              · have hj98 := bif_f hj98 hb107
                refine sYg hf hs rfl rfl rfl (congrArg (fun b => some (Value.bool b)) hb107) rfl rfl rfl (Y_move rfl rfl) ?_; clear hf; intro a hf
                refine sYg hf hs rfl rfl rfl (congrArg (fun b => some (Value.bool b)) hb107) rfl rfl rfl (Y_lenH rfl rfl el24 hn43) ?_; clear hf; intro a hf
                refine sYg hf hs rfl rfl rfl (congrArg (fun b => some (Value.bool b)) hb107) rfl rfl rfl (Y_move rfl rfl) ?_; clear hf; intro a hf
                refine sYg hf hs rfl rfl rfl (congrArg (fun b => some (Value.bool b)) hb107) rfl rfl rfl (Y_lenH rfl rfl el24 hn49) ?_; clear hf; intro a hf
                refine sYg hf hs rfl rfl rfl (congrArg (fun b => some (Value.bool b)) hb107) rfl rfl rfl (Y_neq rfl rfl rfl) ?_; clear hf; intro a hf
                refine sY hf hs rfl rfl rfl (Y_pickF rfl (congrArg (fun b => some (Value.bool b)) hb107) rfl) ?_; clear hf; intro a hf
                refine sY hf hs rfl rfl rfl (Y_move rfl rfl) ?_; clear hf; intro a hf
                refine bsplit ((r38.1.length : Int) != (r44.1.length : Int)) (fun hb108 => ?_) (fun hb108 => ?_)
                · have hj98 := bif_t hj98 hb108
                  refine sNo hf rfl rfl rfl (congrArg (fun b => some (Value.bool b)) hb108) rfl rfl rfl ?_; clear hf; intro a hf
                  refine sNo hf rfl rfl rfl (congrArg (fun b => some (Value.bool b)) hb108) rfl rfl rfl ?_; clear hf; intro a hf
                  refine sNo hf rfl rfl rfl (congrArg (fun b => some (Value.bool b)) hb108) rfl rfl rfl ?_; clear hf; intro a hf
                  refine sNo hf rfl rfl rfl (congrArg (fun b => some (Value.bool b)) hb108) rfl rfl rfl ?_; clear hf; intro a hf
                  refine sNo hf rfl rfl rfl (congrArg (fun b => some (Value.bool b)) hb108) rfl rfl rfl ?_; clear hf; intro a hf
                  refine sNo hf rfl rfl rfl (congrArg (fun b => some (Value.bool b)) hb108) rfl rfl rfl ?_; clear hf; intro a hf
                  refine sY hf hs rfl rfl rfl (Y_pickT rfl (congrArg (fun b => some (Value.bool b)) hb108) rfl) ?_; clear hf; intro a hf
                  refine sY hf hs rfl rfl rfl (Y_move rfl rfl) ?_; clear hf; intro a hf
                  refine sNo hf rfl rfl rfl rfl rfl rfl rfl ?_; clear hf; intro a hf
                  refine sNo hf rfl rfl rfl rfl rfl rfl rfl ?_; clear hf; intro a hf
                  refine sNo hf rfl rfl rfl rfl rfl rfl rfl ?_; clear hf; intro a hf
                  refine sY hf hs rfl rfl rfl (Y_pickT rfl rfl rfl) ?_; clear hf; intro a hf
                  refine sY hf hs rfl rfl rfl (Y_move rfl rfl) ?_; clear hf; intro a hf
                  refine sNo hf rfl rfl rfl rfl rfl rfl rfl ?_; clear hf; intro a hf
                  refine sNo hf rfl rfl rfl rfl rfl rfl rfl ?_; clear hf; intro a hf
                  refine sNo hf rfl rfl rfl rfl rfl rfl rfl ?_; clear hf; intro a hf
                  refine sNo hf rfl rfl rfl rfl rfl rfl rfl ?_; clear hf; intro a hf
                  refine sY hf hs rfl rfl rfl (Y_pickT rfl rfl rfl) ?_; clear hf; intro a hf
                  refine sY hf hs rfl rfl rfl (Y_move rfl rfl) ?_; clear hf; intro a hf
                  refine sNo hf rfl rfl rfl rfl rfl rfl rfl ?_; clear hf; intro a hf
                  refine sNo hf rfl rfl rfl rfl rfl rfl rfl ?_; clear hf; intro a hf
                  refine sNo hf rfl rfl rfl rfl rfl rfl rfl ?_; clear hf; intro a hf
                  refine sY hf hs rfl rfl rfl (Y_pickT rfl rfl rfl) ?_; clear hf; intro a hf
                  refine sY hf hs rfl rfl rfl (Y_move rfl rfl) ?_; clear hf; intro a hf
                  refine sNo hf rfl rfl rfl rfl rfl rfl rfl ?_; clear hf; intro a hf
                  refine sNo hf rfl rfl rfl rfl rfl rfl rfl ?_; clear hf; intro a hf
                  refine sNo hf rfl rfl rfl rfl rfl rfl rfl ?_; clear hf; intro a hf
                  refine sY hf hs rfl rfl rfl (Y_pickT rfl rfl rfl) ?_; clear hf; intro a hf
                  refine wpO_nil ?_
                  refine wpL_nil (then_normal ?_)
                  exact ⟨true, Option.some.inj hj98, (FrD.pick (FrD.pick (FrD.pick (FrD.pick (FrD.pick (FrD.pick (FrD.pick (FrD.pick (FrD.pick (FrD.pick (FrD.pick (FrD.pick (FrD.pick hf.none hf rfl) hf rfl) hf rfl) hf rfl) hf rfl) hf rfl) hf rfl) hf rfl) hf rfl) hf rfl) hf rfl) hf rfl) hf rfl), hs.sel [0, 1, 2, 4, 6, 8, 9, 10, 11] (by decide)⟩
                · have hj98 := bif_f hj98 hb108
                  refine sYg hf hs rfl rfl rfl (congrArg (fun b => some (Value.bool b)) hb108) rfl rfl rfl (Y_move rfl rfl) ?_; clear hf; intro a hf
                  refine sYg hf hs rfl rfl rfl (congrArg (fun b => some (Value.bool b)) hb108) rfl rfl rfl (Y_move rfl rfl) ?_; clear hf; intro a hf
                  refine sYg hf hs rfl rfl rfl (congrArg (fun b => some (Value.bool b)) hb108) rfl rfl rfl (Y_move rfl rfl) ?_; clear hf; intro a hf
                  refine sYg hf hs rfl rfl rfl (congrArg (fun b => some (Value.bool b)) hb108) rfl rfl rfl (Y_move rfl rfl) ?_; clear hf; intro a hf
                  obtain ⟨r109, hc110, hj98⟩ := bind_some hj98
                  refine sCallg hf rfl rfl rfl (congrArg (fun b => some (Value.bool b)) hb108) rfl rfl rfl rfl (cap := []) rfl rfl en22 (spec_IsWindowSolution_ok F r50.1 A52 n53 c54 hn55 r50.2.1 A56 n57 c58 hn59 r50.2.2 A60 n61 c62 hn63 _ _ hc110 (hs.rd (i := 8) rfl) (hs.rd (i := 9) rfl) (hs.rd (i := 10) rfl)) ?_; clear hf
                  rintro _ w ⟨rfl, hs1⟩ a hf
                  have hs : St [] W w [.row A6 n7 c8 39 2 ((recs GWindow.cells) r4.1), .row A10 n11 c12 95 3 ((recs GBond.cells) r4.2), .row A16 n17 c18 2 1 (ints r14.1), .row A22 n23 c24 2 1 (ints r20.1), .row A28 n29 c30 2 1 (ints r26.1), .row A34 n35 c36 2 1 (ints r32.1), .row A40 n41 c42 39 2 ((recs GWindow.cells) r38.1), .row A46 n47 c48 39 2 ((recs GWindow.cells) r44.1), .row A52 n53 c54 39 2 ((recs GWindow.cells) r50.1), .row A56 n57 c58 95 3 ((recs GBond.cells) r50.2.1), .row A60 n61 c62 2 1 (ints r50.2.2), .row A68 n69 c70 2 1 (ints r66.1), .row A74 n75 c76 2 1 (ints r72.1)] := hs.ext hs1.below
                  clear hs1
                  refine sYg hf hs rfl rfl rfl (congrArg (fun b => some (Value.bool b)) hb108) rfl rfl rfl (Y_neqB rfl rfl rfl Try.underlying4) ?_; clear hf; intro a hf
                  refine sY hf hs rfl rfl rfl (Y_pickF rfl (congrArg (fun b => some (Value.bool b)) hb108) rfl) ?_; clear hf; intro a hf
                  refine sY hf hs rfl rfl rfl (Y_move rfl rfl) ?_; clear hf; intro a hf
                  refine bsplit (r64 != r109) (fun hb111 => ?_) (fun hb111 => ?_)
                  · have hj98 := bif_t hj98 hb111
                    refine sNo hf rfl rfl rfl (congrArg (fun b => some (Value.bool b)) hb111) rfl rfl rfl ?_; clear hf; intro a hf
                    refine sNo hf rfl rfl rfl (congrArg (fun b => some (Value.bool b)) hb111) rfl rfl rfl ?_; clear hf; intro a hf
                    refine sNo hf rfl rfl rfl (congrArg (fun b => some (Value.bool b)) hb111) rfl rfl rfl ?_; clear hf; intro a hf
                    refine sY hf hs rfl rfl rfl (Y_pickT rfl (congrArg (fun b => some (Value.bool b)) hb111) rfl) ?_; clear hf; intro a hf
                    refine sY hf hs rfl rfl rfl (Y_move rfl rfl) ?_; clear hf; intro a hf
                    refine sNo hf rfl rfl rfl rfl rfl rfl rfl ?_; clear hf; intro a hf
                    refine sNo hf rfl rfl rfl rfl rfl rfl rfl ?_; clear hf; intro a hf
                    refine sNo hf rfl rfl rfl rfl rfl rfl rfl ?_; clear hf; intro a hf
                    refine sNo hf rfl rfl rfl rfl rfl rfl rfl ?_; clear hf; intro a hf
                    refine sY hf hs rfl rfl rfl (Y_pickT rfl rfl rfl) ?_; clear hf; intro a hf
                    refine sY hf hs rfl rfl rfl (Y_move rfl rfl) ?_; clear hf; intro a hf
                    refine sNo hf rfl rfl rfl rfl rfl rfl rfl ?_; clear hf; intro a hf
                    refine sNo hf rfl rfl rfl rfl rfl rfl rfl ?_; clear hf; intro a hf
                    refine sNo hf rfl rfl rfl rfl rfl rfl rfl ?_; clear hf; intro a hf
                    refine sY hf hs rfl rfl rfl (Y_pickT rfl rfl rfl) ?_; clear hf; intro a hf
                    refine sY hf hs rfl rfl rfl (Y_move rfl rfl) ?_; clear hf; intro a hf
                    refine sNo hf rfl rfl rfl rfl rfl rfl rfl ?_; clear hf; intro a hf
                    refine sNo hf rfl rfl rfl rfl rfl rfl rfl ?_; clear hf; intro a hf
                    refine sNo hf rfl rfl rfl rfl rfl rfl rfl ?_; clear hf; intro a hf
                    refine sY hf hs rfl rfl rfl (Y_pickT rfl rfl rfl) ?_; clear hf; intro a hf
                    refine wpO_nil ?_
                    refine wpL_nil (then_normal ?_)
                    exact ⟨true, Option.some.inj hj98, (FrD.pick (FrD.pick (FrD.pick (FrD.pick (FrD.pick (FrD.pick (FrD.pick (FrD.pick (FrD.pick (FrD.pick (FrD.pick (FrD.pick (FrD.pick hf.none hf rfl) hf rfl) hf rfl) hf rfl) hf rfl) hf rfl) hf rfl) hf rfl) hf rfl) hf rfl) hf rfl) hf rfl) hf rfl), hs.sel [0, 1, 2, 4, 6, 8, 9, 10, 11] (by decide)⟩
                  · have hj98 := bif_f hj98 hb111
                    refine sYg hf hs rfl rfl rfl (congrArg (fun b => some (Value.bool b)) hb111) rfl rfl rfl (Y_move rfl rfl) ?_; clear hf; intro a hf
                    refine sYg hf hs rfl rfl rfl (congrArg (fun b => some (Value.bool b)) hb111) rfl rfl rfl (Y_move rfl rfl) ?_; clear hf; intro a hf
                    refine sYg hf hs rfl rfl rfl (congrArg (fun b => some (Value.bool b)) hb111) rfl rfl rfl (Y_neq rfl rfl rfl) ?_; clear hf; intro a hf
                    refine sY hf hs rfl rfl rfl (Y_pickF rfl (congrArg (fun b => some (Value.bool b)) hb111) rfl) ?_; clear hf; intro a hf
                    refine sY hf hs rfl rfl rfl (Y_move rfl rfl) ?_; clear hf; intro a hf
                    refine bsplit (r66.2 != r72.2) (fun hb112 => ?_) (fun hb112 => ?_)
                    · have hj98 := bif_t hj98 hb112
                      refine sNo hf rfl rfl rfl (congrArg (fun b => some (Value.bool b)) hb112) rfl rfl rfl ?_; clear hf; intro a hf
                      refine sNo hf rfl rfl rfl (congrArg (fun b => some (Value.bool b)) hb112) rfl rfl rfl ?_; clear hf; intro a hf
                      refine sNo hf rfl rfl rfl (congrArg (fun b => some (Value.bool b)) hb112) rfl rfl rfl ?_; clear hf; intro a hf
                      refine sNo hf rfl rfl rfl (congrArg (fun b => some (Value.bool b)) hb112) rfl rfl rfl ?_; clear hf; intro a hf
                      refine sY hf hs rfl rfl rfl (Y_pickT rfl (congrArg (fun b => some (Value.bool b)) hb112) rfl) ?_; clear hf; intro a hf
                      refine sY hf hs rfl rfl rfl (Y_move rfl rfl) ?_; clear hf; intro a hf
                      refine sNo hf rfl rfl rfl rfl rfl rfl rfl ?_; clear hf; intro a hf
                      refine sNo hf rfl rfl rfl rfl rfl rfl rfl ?_; clear hf; intro a hf
                      refine sNo hf rfl rfl rfl rfl rfl rfl rfl ?_; clear hf; intro a hf
                      refine sY hf hs rfl rfl rfl (Y_pickT rfl rfl rfl) ?_; clear hf; intro a hf
                      refine sY hf hs rfl rfl rfl (Y_move rfl rfl) ?_; clear hf; intro a hf
                      refine sNo hf rfl rfl rfl rfl rfl rfl rfl ?_; clear hf; intro a hf
                      refine sNo hf rfl rfl rfl rfl rfl rfl rfl ?_; clear hf; intro a hf
                      refine sNo hf rfl rfl rfl rfl rfl rfl rfl ?_; clear hf; intro a hf
                      refine sY hf hs rfl rfl rfl (Y_pickT rfl rfl rfl) ?_; clear hf; intro a hf
                      refine wpO_nil ?_
                      refine wpL_nil (then_normal ?_)
                      exact ⟨true, Option.some.inj hj98, (FrD.pick (FrD.pick (FrD.pick (FrD.pick (FrD.pick (FrD.pick (FrD.pick (FrD.pick (FrD.pick (FrD.pick (FrD.pick (FrD.pick (FrD.pick hf.none hf rfl) hf rfl) hf rfl) hf rfl) hf rfl) hf rfl) hf rfl) hf rfl) hf rfl) hf rfl) hf rfl) hf rfl) hf rfl), hs.sel [0, 1, 2, 4, 6, 8, 9, 10, 11] (by decide)⟩
                    · have hj98 := bif_f hj98 hb112
                      refine sYg hf hs rfl rfl rfl (congrArg (fun b => some (Value.bool b)) hb112) rfl rfl rfl (Y_move rfl rfl) ?_; clear hf; intro a hf
                      refine sYg hf hs rfl rfl rfl (congrArg (fun b => some (Value.bool b)) hb112) rfl rfl rfl (Y_move rfl rfl) ?_; clear hf; intro a hf
                      obtain ⟨r113, hc114, hj98⟩ := bind_some hj98
                      refine sCallg hf rfl rfl rfl (congrArg (fun b => some (Value.bool b)) hb112) rfl rfl rfl rfl (cap := []) rfl rfl en21 (laws_likeInts_ok F r66.1 A68 n69 c70 hn71 r72.1 A74 n75 c76 hn77 _ _ hc114 (hs.rd (i := 11) rfl) (hs.rd (i := 12) rfl)) ?_; clear hf
                      rintro _ w ⟨rfl, hs1⟩ a hf
                      have hs : St [] W w [.row A6 n7 c8 39 2 ((recs GWindow.cells) r4.1), .row A10 n11 c12 95 3 ((recs GBond.cells) r4.2), .row A16 n17 c18 2 1 (ints r14.1), .row A22 n23 c24 2 1 (ints r20.1), .row A28 n29 c30 2 1 (ints r26.1), .row A34 n35 c36 2 1 (ints r32.1), .row A40 n41 c42 39 2 ((recs GWindow.cells) r38.1), .row A46 n47 c48 39 2 ((recs GWindow.cells) r44.1), .row A52 n53 c54 39 2 ((recs GWindow.cells) r50.1), .row A56 n57 c58 95 3 ((recs GBond.cells) r50.2.1), .row A60 n61 c62 2 1 (ints r50.2.2), .row A68 n69 c70 2 1 (ints r66.1), .row A74 n75 c76 2 1 (ints r72.1)] := hs.ext hs1.below
                      clear hs1
                      refine sYg hf hs rfl rfl rfl (congrArg (fun b => some (Value.bool b)) hb112) rfl rfl rfl (Y_not rfl rfl) ?_; clear hf; intro a hf
                      refine sY hf hs rfl rfl rfl (Y_pickF rfl (congrArg (fun b => some (Value.bool b)) hb112) rfl) ?_; clear hf; intro a hf
                      refine sY hf hs rfl rfl rfl (Y_move rfl rfl) ?_; clear hf; intro a hf
                      refine bsplit (!r113) (fun hb115 => ?_) (fun hb115 => ?_)
                      · have hj98 := bif_t hj98 hb115
                        refine sNo hf rfl rfl rfl (congrArg (fun b => some (Value.bool b)) hb115) rfl rfl rfl ?_; clear hf; intro a hf
                        refine sNo hf rfl rfl rfl (congrArg (fun b => some (Value.bool b)) hb115) rfl rfl rfl ?_; clear hf; intro a hf
                        refine sNo hf rfl rfl rfl (congrArg (fun b => some (Value.bool b)) hb115) rfl rfl rfl ?_; clear hf; intro a hf
                        refine sY hf hs rfl rfl rfl (Y_pickT rfl (congrArg (fun b => some (Value.bool b)) hb115) rfl) ?_; clear hf; intro a hf
                        refine sY hf hs rfl rfl rfl (Y_move rfl rfl) ?_; clear hf; intro a hf
                        refine sNo hf rfl rfl rfl rfl rfl rfl rfl ?_; clear hf; intro a hf
                        refine sNo hf rfl rfl rfl rfl rfl rfl rfl ?_; clear hf; intro a hf
                        refine sNo hf rfl rfl rfl rfl rfl rfl rfl ?_; clear hf; intro a hf
                        refine sY hf hs rfl rfl rfl (Y_pickT rfl rfl rfl) ?_; clear hf; intro a hf
                        refine wpO_nil ?_
                        refine wpL_nil (then_normal ?_)
                        exact ⟨true, Option.some.inj hj98, (FrD.pick (FrD.pick (FrD.pick (FrD.pick (FrD.pick (FrD.pick (FrD.pick (FrD.pick (FrD.pick (FrD.pick (FrD.pick (FrD.pick (FrD.pick hf.none hf rfl) hf rfl) hf rfl) hf rfl) hf rfl) hf rfl) hf rfl) hf rfl) hf rfl) hf rfl) hf rfl) hf rfl) hf rfl), hs.sel [0, 1, 2, 4, 6, 8, 9, 10, 11] (by decide)⟩
                      · have hj98 := bif_f hj98 hb115
                        refine sYg hf hs rfl rfl rfl (congrArg (fun b => some (Value.bool b)) hb115) rfl rfl rfl (Y_move rfl rfl) ?_; clear hf; intro a hf
                        refine sYg hf hs rfl rfl rfl (congrArg (fun b => some (Value.bool b)) hb115) rfl rfl rfl (Y_move rfl rfl) ?_; clear hf; intro a hf
                        refine sYg hf hs rfl rfl rfl (congrArg (fun b => some (Value.bool b)) hb115) rfl rfl rfl (Y_neq rfl rfl rfl) ?_; clear hf; intro a hf
                        refine sY hf hs rfl rfl rfl (Y_pickF rfl (congrArg (fun b => some (Value.bool b)) hb115) rfl) ?_; clear hf; intro a hf
                        refine sY hf hs rfl rfl rfl (Y_move rfl rfl) ?_; clear hf; intro a hf
                        refine bsplit (r26.2 != r14.2) (fun hb116 => ?_) (fun hb116 => ?_)
                        · have hj98 := bif_t hj98 hb116
                          refine sNo hf rfl rfl rfl (congrArg (fun b => some (Value.bool b)) hb116) rfl rfl rfl ?_; clear hf; intro a hf
                          refine sNo hf rfl rfl rfl (congrArg (fun b => some (Value.bool b)) hb116) rfl rfl rfl ?_; clear hf; intro a hf
                          refine sNo hf rfl rfl rfl (congrArg (fun b => some (Value.bool b)) hb116) rfl rfl rfl ?_; clear hf; intro a hf
                          refine sY hf hs rfl rfl rfl (Y_pickT rfl (congrArg (fun b => some (Value.bool b)) hb116) rfl) ?_; clear hf; intro a hf
                          refine wpO_nil ?_
                          refine wpL_nil (then_normal ?_)
                          exact ⟨true, Option.some.inj hj98, (FrD.pick (FrD.pick (FrD.pick (FrD.pick (FrD.pick (FrD.pick (FrD.pick (FrD.pick (FrD.pick (FrD.pick (FrD.pick (FrD.pick (FrD.pick hf.none hf rfl) hf rfl) hf rfl) hf rfl) hf rfl) hf rfl) hf rfl) hf rfl) hf rfl) hf rfl) hf rfl) hf rfl) hf rfl), hs.sel [0, 1, 2, 4, 6, 8, 9, 10, 11] (by decide)⟩
                        · have hj98 := bif_f hj98 hb116
                          refine sYg hf hs rfl rfl rfl (congrArg (fun b => some (Value.bool b)) hb116) rfl rfl rfl (Y_move rfl rfl) ?_; clear hf; intro a hf
                          refine sYg hf hs rfl rfl rfl (congrArg (fun b => some (Value.bool b)) hb116) rfl rfl rfl (Y_move rfl rfl) ?_; clear hf; intro a hf
                          refine sYg hf hs rfl rfl rfl (congrArg (fun b => some (Value.bool b)) hb116) rfl rfl rfl (Y_neq rfl rfl rfl) ?_; clear hf; intro a hf
                          refine sY hf hs rfl rfl rfl (Y_pickF rfl (congrArg (fun b => some (Value.bool b)) hb116) rfl) ?_; clear hf; intro a hf
                          refine wpO_nil ?_
                          refine wpL_nil (then_normal ?_)
                          exact ⟨(r38.2 != r14.2), Option.some.inj hj98, (FrD.pick (FrD.pick (FrD.pick (FrD.pick (FrD.pick (FrD.pick (FrD.pick (FrD.pick (FrD.pick (FrD.pick (FrD.pick (FrD.pick (FrD.pick hf.none hf rfl) hf rfl) hf rfl) hf rfl) hf rfl) hf rfl) hf rfl) hf rfl) hf rfl) hf rfl) hf rfl) hf rfl) hf rfl), hs.sel [0, 1, 2, 4, 6, 8, 9, 10, 11] (by decide)⟩
    · rintro a w ⟨b96, hr_, hf, hs⟩
      subst hr_
      try dsimp only at hm
      refine wpL_cond hf rfl (fun hb117 => ?_) (fun hb117 => ?_)
      · have hm := bif_t hm hb117
        refine wpL_seq ?_
        refine wpL_region ?_
        refine sY hf hs rfl rfl rfl (Y_assign rfl rfl) ?_; clear hf; intro a hf
        refine wpO_nil ?_
        obtain rfl := Option.some.inj hm
        refine wpL_ret (ret_tmp rfl hf rfl ?_)
        exact ⟨_, rfl, rfl, hs.sel [] (by decide)⟩
      · have hm := bif_f hm hb117
        refine wpL_skip ?_
        refine wpL_seq ?_
        refine wpL_seq ?_
        refine wpL_region ?_
        refine sY hf hs rfl rfl rfl (Y_move rfl rfl) ?_; clear hf; intro a hf
        refine wpO_nil ?_
        obtain ⟨r173, hj174, hm⟩ := bind_some hm
        refine wpL_cut (fun a w => Sum.inr () = r173 ∧ Fr a 252 [(3, .slice A6 n7 c8), (4, .slice A10 n11 c12), (5, .slice A16 n17 c18), (6, .int .i64 r14.2), (9, .slice A28 n29 c30), (13, .slice A40 n41 c42)] ∧ St [] W w [.row A6 n7 c8 39 2 ((recs GWindow.cells) r4.1), .row A10 n11 c12 95 3 ((recs GBond.cells) r4.2), .row A16 n17 c18 2 1 (ints r14.1), .row A28 n29 c30 2 1 (ints r26.1), .row A40 n41 c42 39 2 ((recs GWindow.cells) r38.1)]) ?_ ?_
        · refine wpL_cond hf rfl (fun hb175 => ?_) (fun hb175 => ?_)
          · have hj174 := bif_t hj174 hb175
            refine wpL_seq ?_
            refine wpL_region ?_
            refine sY hf hs rfl rfl rfl (Y_move rfl rfl) ?_; clear hf; intro a hf
            refine sY hf hs rfl rfl rfl (Y_move rfl rfl) ?_; clear hf; intro a hf
            obtain ⟨r176, hc177, hj174⟩ := bind_some hj174
            refine sCall hf rfl rfl rfl rfl (cap := []) rfl rfl en11 (impl_EarliestTimes_ok F r50.1 A52 n53 c54 hn55 r50.2.1 A56 n57 c58 hn59 _ _ hc177 (hs.rd (i := 5) rfl) (hs.rd (i := 6) rfl)) ?_; clear hf
            rintro _ w ⟨A178, n179, c180, rfl, hn181, hs1⟩ a hf
            have hs : St [] W w [.row A6 n7 c8 39 2 ((recs GWindow.cells) r4.1), .row A10 n11 c12 95 3 ((recs GBond.cells) r4.2), .row A16 n17 c18 2 1 (ints r14.1), .row A28 n29 c30 2 1 (ints r26.1), .row A40 n41 c42 39 2 ((recs GWindow.cells) r38.1), .row A52 n53 c54 39 2 ((recs GWindow.cells) r50.1), .row A56 n57 c58 95 3 ((recs GBond.cells) r50.2.1), .row A60 n61 c62 2 1 (ints r50.2.2), .row A68 n69 c70 2 1 (ints r66.1), .row A178 n179 c180 2 1 (ints r176.1)] := hs.join hs1
            clear hs1
            refine sY hf hs rfl rfl rfl (Y_move rfl rfl) ?_; clear hf; intro a hf
            refine sY hf hs rfl rfl rfl (Y_extract rfl rfl rfl) ?_; clear hf; intro a hf
            refine sY hf hs rfl rfl rfl (Y_extract rfl rfl rfl) ?_; clear hf; intro a hf
            refine sY hf hs rfl rfl rfl (Y_assign rfl rfl) ?_; clear hf; intro a hf
            refine sY hf hs rfl rfl rfl (Y_assign rfl rfl) ?_; clear hf; intro a hf
            refine wpO_nil ?_
            refine wpL_seq ?_
            refine wpL_region ?_
            refine sY hf hs rfl rfl rfl (Y_move rfl rfl) ?_; clear hf; intro a hf
            refine sY hf hs rfl rfl rfl (Y_move rfl rfl) ?_; clear hf; intro a hf
            obtain ⟨r182, hc183, hj174⟩ := bind_some hj174
            refine sCall hf rfl rfl rfl rfl (cap := []) rfl rfl en13 (impl_LatestIn_ok F r50.1 A52 n53 c54 hn55 r50.2.1 A56 n57 c58 hn59 _ _ hc183 (hs.rd (i := 5) rfl) (hs.rd (i := 6) rfl)) ?_; clear hf
            rintro _ w ⟨A184, n185, c186, rfl, hn187, hs1⟩ a hf
            have hs : St [] W w [.row A6 n7 c8 39 2 ((recs GWindow.cells) r4.1), .row A10 n11 c12 95 3 ((recs GBond.cells) r4.2), .row A16 n17 c18 2 1 (ints r14.1), .row A28 n29 c30 2 1 (ints r26.1), .row A40 n41 c42 39 2 ((recs GWindow.cells) r38.1), .row A52 n53 c54 39 2 ((recs GWindow.cells) r50.1), .row A56 n57 c58 95 3 ((recs GBond.cells) r50.2.1), .row A60 n61 c62 2 1 (ints r50.2.2), .row A68 n69 c70 2 1 (ints r66.1), .row A178 n179 c180 2 1 (ints r176.1), .row A184 n185 c186 2 1 (ints r182.1)] := hs.join hs1
            clear hs1
            refine sY hf hs rfl rfl rfl (Y_move rfl rfl) ?_; clear hf; intro a hf
            refine sY hf hs rfl rfl rfl (Y_extract rfl rfl rfl) ?_; clear hf; intro a hf
            refine sY hf hs rfl rfl rfl (Y_extract rfl rfl rfl) ?_; clear hf; intro a hf
            refine sY hf hs rfl rfl rfl (Y_assign rfl rfl) ?_; clear hf; intro a hf
            refine sY hf hs rfl rfl rfl (Y_assign rfl rfl) ?_; clear hf; intro a hf
            refine wpO_nil ?_
            refine wpL_seq ?_
            refine wpL_seq ?_
            obtain ⟨r197, hj198, hj174⟩ := bind_some hj174
            refine wpL_cut (fun a w => ∃ b196 : Bool, b196 = r197 ∧ Fr a 252 [(3, .slice A6 n7 c8), (4, .slice A10 n11 c12), (5, .slice A16 n17 c18), (6, .int .i64 r14.2), (9, .slice A28 n29 c30), (13, .slice A40 n41 c42), (21, .slice A68 n69 c70), (193, .bool b196)] ∧ St [] W w [.row A6 n7 c8 39 2 ((recs GWindow.cells) r4.1), .row A10 n11 c12 95 3 ((recs GBond.cells) r4.2), .row A16 n17 c18 2 1 (ints r14.1), .row A28 n29 c30 2 1 (ints r26.1), .row A40 n41 c42 39 2 ((recs GWindow.cells) r38.1), .row A68 n69 c70 2 1 (ints r66.1)]) ?_ ?_
            · refine wpL_region ?_
              refine sY hf hs rfl rfl rfl (Y_move rfl rfl) ?_; clear hf; intro a hf
              refine sY hf hs rfl rfl rfl (Y_neq rfl rfl rfl) ?_; clear hf; intro a hf
              refine sY hf hs rfl rfl rfl (Y_move rfl rfl) ?_; clear hf; intro a hf
              refine bsplit (r176.2 != 0) (fun hb199 => ?_) (fun hb199 => ?_)
              · have hj198 := bif_t hj198 hb199
                refine sNo hf rfl rfl rfl (congrArg (fun b => some (Value.bool b)) hb199) rfl rfl rfl ?_; clear hf; intro a hf
                refine sNo hf rfl rfl rfl (congrArg (fun b => some (Value.bool b)) hb199) rfl rfl rfl ?_; clear hf; intro a hf
                refine sY hf hs rfl rfl rfl (Y_pickT rfl (congrArg (fun b => some (Value.bool b)) hb199) rfl) ?_; clear hf; intro a hf
                refine sY hf hs rfl rfl rfl (Y_move rfl rfl) ?_; clear hf; intro a hf
                refine sNo hf rfl rfl rfl rfl rfl rfl rfl ?_; clear hf; intro a hf
                refine sNo hf rfl rfl rfl rfl rfl rfl rfl ?_; clear hf; intro a hf
                refine sNo hf rfl rfl rfl rfl rfl rfl rfl ?_; clear hf; intro a hf
                refine sNo hf rfl rfl rfl rfl rfl rfl rfl ?_; clear hf; intro a hf
                refine sY hf hs rfl rfl rfl (Y_pickT rfl rfl rfl) ?_; clear hf; intro a hf
                refine sY hf hs rfl rfl rfl (Y_move rfl rfl) ?_; clear hf; intro a hf
                refine sNo hf rfl rfl rfl rfl rfl rfl rfl ?_; clear hf; intro a hf
                refine sNo hf rfl rfl rfl rfl rfl rfl rfl ?_; clear hf; intro a hf
                refine sNo hf rfl rfl rfl rfl rfl rfl rfl ?_; clear hf; intro a hf
                refine sNo hf rfl rfl rfl rfl rfl rfl rfl ?_; clear hf; intro a hf
                refine sY hf hs rfl rfl rfl (Y_pickT rfl rfl rfl) ?_; clear hf; intro a hf
                refine sY hf hs rfl rfl rfl (Y_move rfl rfl) ?_; clear hf; intro a hf
                refine sNo hf rfl rfl rfl rfl rfl rfl rfl ?_; clear hf; intro a hf
                refine sNo hf rfl rfl rfl rfl rfl rfl rfl ?_; clear hf; intro a hf
                refine sY hf hs rfl rfl rfl (Y_pickT rfl rfl rfl) ?_; clear hf; intro a hf
                refine wpO_nil ?_
                refine wpL_nil (then_normal ?_)
                exact ⟨true, Option.some.inj hj198, (FrD.pick (FrD.pick (FrD.pick (FrD.pick (FrD.pick (FrD.pick (FrD.pick (FrD.pick hf.none hf rfl) hf rfl) hf rfl) hf rfl) hf rfl) hf rfl) hf rfl) hf rfl), hs.sel [0, 1, 2, 3, 4, 8] (by decide)⟩
              · have hj198 := bif_f hj198 hb199
                refine sYg hf hs rfl rfl rfl (congrArg (fun b => some (Value.bool b)) hb199) rfl rfl rfl (Y_move rfl rfl) ?_; clear hf; intro a hf
                refine sYg hf hs rfl rfl rfl (congrArg (fun b => some (Value.bool b)) hb199) rfl rfl rfl (Y_neq rfl rfl rfl) ?_; clear hf; intro a hf
                refine sY hf hs rfl rfl rfl (Y_pickF rfl (congrArg (fun b => some (Value.bool b)) hb199) rfl) ?_; clear hf; intro a hf
                refine sY hf hs rfl rfl rfl (Y_move rfl rfl) ?_; clear hf; intro a hf
                refine bsplit (r182.2 != 0) (fun hb200 => ?_) (fun hb200 => ?_)
                · have hj198 := bif_t hj198 hb200
                  refine sNo hf rfl rfl rfl (congrArg (fun b => some (Value.bool b)) hb200) rfl rfl rfl ?_; clear hf; intro a hf
                  refine sNo hf rfl rfl rfl (congrArg (fun b => some (Value.bool b)) hb200) rfl rfl rfl ?_; clear hf; intro a hf
                  refine sNo hf rfl rfl rfl (congrArg (fun b => some (Value.bool b)) hb200) rfl rfl rfl ?_; clear hf; intro a hf
                  refine sNo hf rfl rfl rfl (congrArg (fun b => some (Value.bool b)) hb200) rfl rfl rfl ?_; clear hf; intro a hf
                  refine sY hf hs rfl rfl rfl (Y_pickT rfl (congrArg (fun b => some (Value.bool b)) hb200) rfl) ?_; clear hf; intro a hf
                  refine sY hf hs rfl rfl rfl (Y_move rfl rfl) ?_; clear hf; intro a hf
                  refine sNo hf rfl rfl rfl rfl rfl rfl rfl ?_; clear hf; intro a hf
                  refine sNo hf rfl rfl rfl rfl rfl rfl rfl ?_; clear hf; intro a hf
                  refine sNo hf rfl rfl rfl rfl rfl rfl rfl ?_; clear hf; intro a hf
                  refine sNo hf rfl rfl rfl rfl rfl rfl rfl ?_; clear hf; intro a hf
                  refine sY hf hs rfl rfl rfl (Y_pickT rfl rfl rfl) ?_; clear hf; intro a hf
                  refine sY hf hs rfl rfl rfl (Y_move rfl rfl) ?_; clear hf; intro a hf
                  refine sNo hf rfl rfl rfl rfl rfl rfl rfl ?_; clear hf; intro a hf
                  refine sNo hf rfl rfl rfl rfl rfl rfl rfl ?_; clear hf; intro a hf
                  refine sY hf hs rfl rfl rfl (Y_pickT rfl rfl rfl) ?_; clear hf; intro a hf
                  refine wpO_nil ?_
                  refine wpL_nil (then_normal ?_)
                  exact ⟨true, Option.some.inj hj198, (FrD.pick (FrD.pick (FrD.pick (FrD.pick (FrD.pick (FrD.pick (FrD.pick (FrD.pick hf.none hf rfl) hf rfl) hf rfl) hf rfl) hf rfl) hf rfl) hf rfl) hf rfl), hs.sel [0, 1, 2, 3, 4, 8] (by decide)⟩
                · have hj198 := bif_f hj198 hb200
                  refine sYg hf hs rfl rfl rfl (congrArg (fun b => some (Value.bool b)) hb200) rfl rfl rfl (Y_move rfl rfl) ?_; clear hf; intro a hf
                  refine sYg hf hs rfl rfl rfl (congrArg (fun b => some (Value.bool b)) hb200) rfl rfl rfl (Y_move rfl rfl) ?_; clear hf; intro a hf
                  obtain ⟨r201, hc202, hj198⟩ := bind_some hj198
                  refine sCallg hf rfl rfl rfl (congrArg (fun b => some (Value.bool b)) hb200) rfl rfl rfl rfl (cap := []) rfl rfl en23 (laws_below9_ok F r176.1 A178 n179 c180 hn181 r50.2.2 A60 n61 c62 hn63 _ _ hc202 (hs.rd (i := 9) rfl) (hs.rd (i := 7) rfl)) ?_; clear hf
                  rintro _ w ⟨rfl, hs1⟩ a hf
                  have hs : St [] W w [.row A6 n7 c8 39 2 ((recs GWindow.cells) r4.1), .row A10 n11 c12 95 3 ((recs GBond.cells) r4.2), .row A16 n17 c18 2 1 (ints r14.1), .row A28 n29 c30 2 1 (ints r26.1), .row A40 n41 c42 39 2 ((recs GWindow.cells) r38.1), .row A52 n53 c54 39 2 ((recs GWindow.cells) r50.1), .row A56 n57 c58 95 3 ((recs GBond.cells) r50.2.1), .row A60 n61 c62 2 1 (ints r50.2.2), .row A68 n69 c70 2 1 (ints r66.1), .row A178 n179 c180 2 1 (ints r176.1), .row A184 n185 c186 2 1 (ints r182.1)] := hs.ext hs1.below
                  clear hs1
                  refine sYg hf hs rfl rfl rfl (congrArg (fun b => some (Value.bool b)) hb200) rfl rfl rfl (Y_not rfl rfl) ?_; clear hf; intro a hf
                  refine sY hf hs rfl rfl rfl (Y_pickF rfl (congrArg (fun b => some (Value.bool b)) hb200) rfl) ?_; clear hf; intro a hf
                  refine sY hf hs rfl rfl rfl (Y_move rfl rfl) ?_; clear hf; intro a hf
                  refine bsplit (!r201) (fun hb203 => ?_) (fun hb203 => ?_)
                  · have hj198 := bif_t hj198 hb203
                    refine sNo hf rfl rfl rfl (congrArg (fun b => some (Value.bool b)) hb203) rfl rfl rfl ?_; clear hf; intro a hf
                    refine sNo hf rfl rfl rfl (congrArg (fun b => some (Value.bool b)) hb203) rfl rfl rfl ?_; clear hf; intro a hf
                    refine sNo hf rfl rfl rfl (congrArg (fun b => some (Value.bool b)) hb203) rfl rfl rfl ?_; clear hf; intro a hf
                    refine sNo hf rfl rfl rfl (congrArg (fun b => some (Value.bool b)) hb203) rfl rfl rfl ?_; clear hf; intro a hf
                    refine sY hf hs rfl rfl rfl (Y_pickT rfl (congrArg (fun b => some (Value.bool b)) hb203) rfl) ?_; clear hf; intro a hf
                    refine sY hf hs rfl rfl rfl (Y_move rfl rfl) ?_; clear hf; intro a hf
                    refine sNo hf rfl rfl rfl rfl rfl rfl rfl ?_; clear hf; intro a hf
                    refine sNo hf rfl rfl rfl rfl rfl rfl rfl ?_; clear hf; intro a hf
                    refine sY hf hs rfl rfl rfl (Y_pickT rfl rfl rfl) ?_; clear hf; intro a hf
                    refine wpO_nil ?_
                    refine wpL_nil (then_normal ?_)
                    exact ⟨true, Option.some.inj hj198, (FrD.pick (FrD.pick (FrD.pick (FrD.pick (FrD.pick (FrD.pick (FrD.pick (FrD.pick hf.none hf rfl) hf rfl) hf rfl) hf rfl) hf rfl) hf rfl) hf rfl) hf rfl), hs.sel [0, 1, 2, 3, 4, 8] (by decide)⟩
                  · have hj198 := bif_f hj198 hb203
                    refine sYg hf hs rfl rfl rfl (congrArg (fun b => some (Value.bool b)) hb203) rfl rfl rfl (Y_move rfl rfl) ?_; clear hf; intro a hf
                    refine sYg hf hs rfl rfl rfl (congrArg (fun b => some (Value.bool b)) hb203) rfl rfl rfl (Y_move rfl rfl) ?_; clear hf; intro a hf
                    obtain ⟨r204, hc205, hj198⟩ := bind_some hj198
                    refine sCallg hf rfl rfl rfl (congrArg (fun b => some (Value.bool b)) hb203) rfl rfl rfl rfl (cap := []) rfl rfl en23 (laws_below9_ok F r50.2.2 A60 n61 c62 hn63 r182.1 A184 n185 c186 hn187 _ _ hc205 (hs.rd (i := 7) rfl) (hs.rd (i := 10) rfl)) ?_; clear hf
                    rintro _ w ⟨rfl, hs1⟩ a hf
                    have hs : St [] W w [.row A6 n7 c8 39 2 ((recs GWindow.cells) r4.1), .row A10 n11 c12 95 3 ((recs GBond.cells) r4.2), .row A16 n17 c18 2 1 (ints r14.1), .row A28 n29 c30 2 1 (ints r26.1), .row A40 n41 c42 39 2 ((recs GWindow.cells) r38.1), .row A52 n53 c54 39 2 ((recs GWindow.cells) r50.1), .row A56 n57 c58 95 3 ((recs GBond.cells) r50.2.1), .row A60 n61 c62 2 1 (ints r50.2.2), .row A68 n69 c70 2 1 (ints r66.1), .row A178 n179 c180 2 1 (ints r176.1), .row A184 n185 c186 2 1 (ints r182.1)] := hs.ext hs1.below
                    clear hs1
                    refine sYg hf hs rfl rfl rfl (congrArg (fun b => some (Value.bool b)) hb203) rfl rfl rfl (Y_not rfl rfl) ?_; clear hf; intro a hf
                    refine sY hf hs rfl rfl rfl (Y_pickF rfl (congrArg (fun b => some (Value.bool b)) hb203) rfl) ?_; clear hf; intro a hf
                    refine sY hf hs rfl rfl rfl (Y_move rfl rfl) ?_; clear hf; intro a hf
                    refine bsplit (!r204) (fun hb206 => ?_) (fun hb206 => ?_)
                    · have hj198 := bif_t hj198 hb206
                      refine sNo hf rfl rfl rfl (congrArg (fun b => some (Value.bool b)) hb206) rfl rfl rfl ?_; clear hf; intro a hf
                      refine sNo hf rfl rfl rfl (congrArg (fun b => some (Value.bool b)) hb206) rfl rfl rfl ?_; clear hf; intro a hf
                      refine sY hf hs rfl rfl rfl (Y_pickT rfl (congrArg (fun b => some (Value.bool b)) hb206) rfl) ?_; clear hf; intro a hf
                      refine wpO_nil ?_
                      refine wpL_nil (then_normal ?_)
                      exact ⟨true, Option.some.inj hj198, (FrD.pick (FrD.pick (FrD.pick (FrD.pick (FrD.pick (FrD.pick (FrD.pick (FrD.pick hf.none hf rfl) hf rfl) hf rfl) hf rfl) hf rfl) hf rfl) hf rfl) hf rfl), hs.sel [0, 1, 2, 3, 4, 8] (by decide)⟩
                    · have hj198 := bif_f hj198 hb206
                      refine sYg hf hs rfl rfl rfl (congrArg (fun b => some (Value.bool b)) hb206) rfl rfl rfl (Y_move rfl rfl) ?_; clear hf; intro a hf
                      refine sYg hf hs rfl rfl rfl (congrArg (fun b => some (Value.bool b)) hb206) rfl rfl rfl (Y_neq rfl rfl rfl) ?_; clear hf; intro a hf
                      refine sY hf hs rfl rfl rfl (Y_pickF rfl (congrArg (fun b => some (Value.bool b)) hb206) rfl) ?_; clear hf; intro a hf
                      refine wpO_nil ?_
                      refine wpL_nil (then_normal ?_)
                      exact ⟨(r66.2 != 0), Option.some.inj hj198, (FrD.pick (FrD.pick (FrD.pick (FrD.pick (FrD.pick (FrD.pick (FrD.pick (FrD.pick hf.none hf rfl) hf rfl) hf rfl) hf rfl) hf rfl) hf rfl) hf rfl) hf rfl), hs.sel [0, 1, 2, 3, 4, 8] (by decide)⟩
            · rintro a w ⟨b196, hr_, hf, hs⟩
              subst hr_
              try dsimp only at hj174
              refine wpL_cond hf rfl (fun hb207 => ?_) (fun hb207 => ?_)
              · have hj174 := bif_t hj174 hb207
                refine wpL_seq ?_
                refine wpL_region ?_
                refine sY hf hs rfl rfl rfl (Y_assign rfl rfl) ?_; clear hf; intro a hf
                refine wpO_nil ?_
                obtain rfl := Option.some.inj hj174
                try dsimp only at hm
                obtain rfl := Option.some.inj hm
                refine wpL_ret (then_ret (ret_tmp rfl hf rfl ?_))
                exact ⟨_, rfl, rfl, hs.sel [] (by decide)⟩
              · have hj174 := bif_f hj174 hb207
                refine wpL_skip ?_
                refine wpL_seq ?_
                refine wpL_region ?_
                refine sY hf hs rfl rfl rfl (Y_assign rfl rfl) ?_; clear hf; intro a hf
                refine wpO_nil ?_
                obtain ⟨r222, hl223, hj174⟩ := bind_some hj174
                refine wpL_block (fun a w => Sum.inr () = r222 ∧ Fr a 252 [(3, .slice A6 n7 c8), (4, .slice A10 n11 c12), (5, .slice A16 n17 c18), (6, .int .i64 r14.2), (9, .slice A28 n29 c30), (13, .slice A40 n41 c42)] ∧ St [] W w [.row A6 n7 c8 39 2 ((recs GWindow.cells) r4.1), .row A10 n11 c12 95 3 ((recs GBond.cells) r4.2), .row A16 n17 c18 2 1 (ints r14.1), .row A28 n29 c30 2 1 (ints r26.1), .row A40 n41 c42 39 2 ((recs GWindow.cells) r38.1)]) ?_ ?_
                · refine wpL_loop (fun n a w => ∃ x217 : Int, laws_FnTasks_L2 F r66 n x217 = some r222 ∧ Fr a 252 [(3, .slice A6 n7 c8), (4, .slice A10 n11 c12), (5, .slice A16 n17 c18), (6, .int .i64 r14.2), (9, .slice A28 n29 c30), (13, .slice A40 n41 c42), (21, .slice A68 n69 c70), (29, .int .i64 x217)] ∧ St [] W w [.row A6 n7 c8 39 2 ((recs GWindow.cells) r4.1), .row A10 n11 c12 95 3 ((recs GBond.cells) r4.2), .row A16 n17 c18 2 1 (ints r14.1), .row A28 n29 c30 2 1 (ints r26.1), .row A40 n41 c42 39 2 ((recs GWindow.cells) r38.1), .row A68 n69 c70 2 1 (ints r66.1)]) F ?_ ?_ ?_
                  · exact ⟨0, hl223, (FrD.pick (FrD.pick (FrD.pick (FrD.pick (FrD.pick (FrD.pick (FrD.pick (FrD.pick hf.none hf rfl) hf rfl) hf rfl) hf rfl) hf rfl) hf rfl) hf rfl) hf rfl), hs⟩
                  · rintro a w ⟨x217, h0_, -, -⟩; simp [laws_FnTasks_L2] at h0_
                  · rintro n225 a w ⟨x217, hm224, hf, hs⟩
                    rw [laws_FnTasks_L2] at hm224
                    refine wpL_seq ?_
                    refine wpL_seq ?_
                    refine wpL_region ?_
                    refine sY hf hs rfl rfl rfl (Y_move rfl rfl) ?_; clear hf; intro a hf
                    refine sY hf hs rfl rfl rfl (Y_move rfl rfl) ?_; clear hf; intro a hf
                    refine sY hf hs rfl rfl rfl (Y_lenH rfl rfl el28 hn71) ?_; clear hf; intro a hf
                    refine sY hf hs rfl rfl rfl (Y_lss rfl rfl rfl) ?_; clear hf; intro a hf
                    refine wpO_nil ?_
                    refine wpL_cond hf rfl (fun hb226 => ?_) (fun hb226 => ?_)
                    · have hm224 := bif_t hm224 hb226
                      refine wpL_skip ?_
                      refine wpL_seq ?_
                      refine wpL_block0 ?_
                      refine wpL_seq ?_
                      refine wpL_region ?_
                      refine sY hf hs rfl rfl rfl (Y_move rfl rfl) ?_; clear hf; intro a hf
                      refine sY hf hs rfl rfl rfl (Y_move rfl rfl) ?_; clear hf; intro a hf
                      obtain ⟨q227, hi228, hm224⟩ := bind_some hm224
                      obtain ⟨hi228a, hi228b, hi228q⟩ := idx_some hi228
                      refine sY hf hs rfl rfl rfl (Y_index rfl rfl rfl el28 ti2 (Rd.isAt (hs.rd (i := 5) rfl) (at1 (ints_at hi228q))) hi228a (ltn hn71 hi228b)) ?_; clear hf; intro a hf
                      refine sY hf hs rfl rfl rfl (Y_load_rd rfl rfl (fun w hs => hs.rd (i := 5) rfl) (at1 (ints_at hi228q)) ag2) ?_; clear hf; intro a hf
                      refine sY hf hs rfl rfl rfl (Y_lss rfl rfl rfl) ?_; clear hf; intro a hf
                      refine wpO_nil ?_
                      refine wpL_cond hf rfl (fun hb229 => ?_) (fun hb229 => ?_)
                      · have hm224 := bif_t hm224 hb229
                        refine wpL_seq ?_
                        refine wpL_region ?_
                        refine sY hf hs rfl rfl rfl (Y_assign rfl rfl) ?_; clear hf; intro a hf
                        refine wpO_nil ?_
                        obtain rfl := Option.some.inj hm224
                        try dsimp only at hj174
                        obtain rfl := Option.some.inj hj174
                        try dsimp only at hm
                        obtain rfl := Option.some.inj hm
                        refine wpL_ret (Qb_ret (Ql_ret (Qb_ret (then_ret (ret_tmp rfl hf rfl ?_)))))
                        exact ⟨_, rfl, rfl, hs.sel [] (by decide)⟩
                      · have hm224 := bif_f hm224 hb229
                        refine wpL_skip ?_
                        refine wpL_nil (Qb_normal ?_)
                        refine wpL_region ?_
                        refine sY hf hs rfl rfl rfl (Y_move rfl rfl) ?_; clear hf; intro a hf
                        refine sY hf hs rfl rfl rfl (Y_add rfl rfl rfl) ?_; clear hf; intro a hf
                        refine sY hf hs rfl rfl rfl (Y_assign rfl rfl) ?_; clear hf; intro a hf
                        refine wpO_nil ?_
                        refine wpL_nil (Ql_normal ?_)
                        exact ⟨(IntKind.i64.wrap (x217 + 1)), hm224, (FrD.pick (FrD.pick (FrD.pick (FrD.pick (FrD.pick (FrD.pick (FrD.pick (FrD.pick hf.none hf rfl) hf rfl) hf rfl) hf rfl) hf rfl) hf rfl) hf rfl) hf rfl), hs⟩
                    · have hm224 := bif_f hm224 hb226
                      refine wpL_exit (Ql_exit (Qb_exit ?_))
                      exact ⟨Option.some.inj hm224, (FrD.pick (FrD.pick (FrD.pick (FrD.pick (FrD.pick (FrD.pick hf.none hf rfl) hf rfl) hf rfl) hf rfl) hf rfl) hf rfl), hs.sel [0, 1, 2, 3, 4] (by decide)⟩
                · rintro a w ⟨hr_, hf, hs⟩
                  subst hr_
                  try dsimp only at hj174
                  refine wpL_nil (then_normal ?_)
                  exact ⟨Option.some.inj hj174, (FrD.pick (FrD.pick (FrD.pick (FrD.pick (FrD.pick (FrD.pick hf.none hf rfl) hf rfl) hf rfl) hf rfl) hf rfl) hf rfl), hs⟩
          · have hj174 := bif_f hj174 hb175
            refine wpL_skip ?_
            refine wpL_nil (then_normal ?_)
            exact ⟨Option.some.inj hj174, (FrD.pick (FrD.pick (FrD.pick (FrD.pick (FrD.pick (FrD.pick hf.none hf rfl) hf rfl) hf rfl) hf rfl) hf rfl) hf rfl), hs.sel [0, 1, 2, 3, 4] (by decide)⟩
        · rintro a w ⟨hr_, hf, hs⟩
          subst hr_
          try dsimp only at hm
          refine wpL_seq ?_
          refine wpL_seq ?_
          refine wpL_region ?_
          refine sY hf hs rfl rfl rfl (Y_move rfl rfl) ?_; clear hf; intro a hf
          refine sY hf hs rfl rfl rfl (Y_neq rfl rfl rfl) ?_; clear hf; intro a hf
          refine wpO_nil ?_
          refine wpL_cond hf rfl (fun hb230 => ?_) (fun hb230 => ?_)
          · have hm := bif_t hm hb230
            refine wpL_seq ?_
            refine wpL_region ?_
            refine sY hf hs rfl rfl rfl (Y_assign rfl rfl) ?_; clear hf; intro a hf
            refine wpO_nil ?_
            obtain rfl := Option.some.inj hm
            refine wpL_ret (ret_tmp rfl hf rfl ?_)
            exact ⟨_, rfl, rfl, hs.sel [] (by decide)⟩
          · have hm := bif_f hm hb230
            refine wpL_skip ?_
            refine wpL_seq ?_
            refine wpL_seq ?_
            refine wpL_region ?_
            refine sY hf hs rfl rfl rfl (Y_assign rfl rfl) ?_; clear hf; intro a hf
            refine wpO_nil ?_
            obtain ⟨r302, hl303, hm⟩ := bind_some hm
            refine wpL_block (fun a w => Sum.inr () = r302 ∧ Fr a 252 [(3, .slice A6 n7 c8), (4, .slice A10 n11 c12), (5, .slice A16 n17 c18), (9, .slice A28 n29 c30), (13, .slice A40 n41 c42)] ∧ St [] W w [.row A6 n7 c8 39 2 ((recs GWindow.cells) r4.1), .row A10 n11 c12 95 3 ((recs GBond.cells) r4.2), .row A16 n17 c18 2 1 (ints r14.1), .row A28 n29 c30 2 1 (ints r26.1), .row A40 n41 c42 39 2 ((recs GWindow.cells) r38.1)]) ?_ ?_
            · refine wpL_loop (fun n a w => ∃ x278 : Int, laws_FnTasks_L3 F r14 r26 r38 n x278 = some r302 ∧ Fr a 252 [(3, .slice A6 n7 c8), (4, .slice A10 n11 c12), (5, .slice A16 n17 c18), (9, .slice A28 n29 c30), (13, .slice A40 n41 c42), (30, .int .i64 x278)] ∧ St [] W w [.row A6 n7 c8 39 2 ((recs GWindow.cells) r4.1), .row A10 n11 c12 95 3 ((recs GBond.cells) r4.2), .row A16 n17 c18 2 1 (ints r14.1), .row A28 n29 c30 2 1 (ints r26.1), .row A40 n41 c42 39 2 ((recs GWindow.cells) r38.1)]) F ?_ ?_ ?_
              · exact ⟨0, hl303, (FrD.pick (FrD.pick (FrD.pick (FrD.pick (FrD.pick (FrD.pick hf.none hf rfl) hf rfl) hf rfl) hf rfl) hf rfl) hf rfl), hs⟩
              · rintro a w ⟨x278, h0_, -, -⟩; simp [laws_FnTasks_L3] at h0_
              · rintro n305 a w ⟨x278, hm304, hf, hs⟩
                rw [laws_FnTasks_L3] at hm304
                refine wpL_seq ?_
                refine wpL_seq ?_
                refine wpL_region ?_
                refine sY hf hs rfl rfl rfl (Y_move rfl rfl) ?_; clear hf; intro a hf
                refine sY hf hs rfl rfl rfl (Y_move rfl rfl) ?_; clear hf; intro a hf
                refine sY hf hs rfl rfl rfl (Y_lenH rfl rfl el24 hn43) ?_; clear hf; intro a hf
                refine sY hf hs rfl rfl rfl (Y_lss rfl rfl rfl) ?_; clear hf; intro a hf
                refine wpO_nil ?_
                refine wpL_cond hf rfl (fun hb306 => ?_) (fun hb306 => ?_)
                · have hm304 := bif_t hm304 hb306
                  refine wpL_skip ?_
                  refine wpL_seq ?_
                  refine wpL_block0 ?_
                  refine wpL_seq ?_
                  obtain ⟨r317, hj318, hm304⟩ := bind_some hm304
                  refine wpL_cut (fun a w => ∃ b316 : Bool, b316 = r317 ∧ Fr a 252 [(3, .slice A6 n7 c8), (4, .slice A10 n11 c12), (5, .slice A16 n17 c18), (9, .slice A28 n29 c30), (13, .slice A40 n41 c42), (30, .int .i64 x278), (234, .bool b316)] ∧ St [] W w [.row A6 n7 c8 39 2 ((recs GWindow.cells) r4.1), .row A10 n11 c12 95 3 ((recs GBond.cells) r4.2), .row A16 n17 c18 2 1 (ints r14.1), .row A28 n29 c30 2 1 (ints r26.1), .row A40 n41 c42 39 2 ((recs GWindow.cells) r38.1)]) ?_ ?_
                  · refine wpL_draw (by kernel_rfl) (by kernel_rfl) hs ?_
                    refine qY hf rfl rfl rfl (Y_move rfl rfl) ?_; clear hf; intro a hf
                    refine qY hf rfl rfl rfl (Y_move rfl rfl) ?_; clear hf; intro a hf
                    obtain ⟨q319, hi320, hj318⟩ := bind_some hj318
                    obtain ⟨hi320a, hi320b, hi320q⟩ := idx_some hi320
                    refine qY hf rfl rfl rfl (Y_index rfl rfl rfl el24 ti39 (Rd.isAt (hs.rd (i := 4) rfl) (recs_at (s := 2) GWindow.len hi320q (j := 0) rfl)) hi320a (ltn hn43 hi320b)) ?_; clear hf; intro a hf
                    refine qY hf rfl rfl rfl (Y_fieldAddrE rfl rfl fo39_0) ?_; clear hf; intro a hf
                    refine qY hf rfl rfl rfl (Y_load_rd rfl rfl (fun w hs => hs.rd (i := 4) rfl) (recs_at (s := 2) GWindow.len hi320q (j := 0) rfl) ag2) ?_; clear hf; intro a hf
                    refine qY hf rfl rfl rfl (Y_move rfl rfl) ?_; clear hf; intro a hf
                    refine qY hf rfl rfl rfl (Y_move rfl rfl) ?_; clear hf; intro a hf
                    obtain ⟨q321, hi322, hj318⟩ := bind_some hj318
                    obtain ⟨hi322a, hi322b, hi322q⟩ := idx_some hi322
                    refine qY hf rfl rfl rfl (Y_index rfl rfl rfl el28 ti2 (Rd.isAt (hs.rd (i := 2) rfl) (at1 (ints_at hi322q))) hi322a (ltn hn19 hi322b)) ?_; clear hf; intro a hf
                    refine qY hf rfl rfl rfl (Y_load_rd rfl rfl (fun w hs => hs.rd (i := 2) rfl) (at1 (ints_at hi322q)) ag2) ?_; clear hf; intro a hf
                    refine qY hf rfl rfl rfl (Y_neq rfl rfl rfl) ?_; clear hf; intro a hf
                    refine qY hf rfl rfl rfl (Y_move rfl rfl) ?_; clear hf; intro a hf
                    refine bsplit (q319.Low != q321) (fun hb323 => ?_) (fun hb323 => ?_)
                    · have hj318 := bif_t hj318 hb323
                      refine qNo hf rfl rfl rfl (congrArg (fun b => some (Value.bool b)) hb323) rfl rfl rfl ?_; clear hf; intro a hf
                      refine qNo hf rfl rfl rfl (congrArg (fun b => some (Value.bool b)) hb323) rfl rfl rfl ?_; clear hf; intro a hf
                      refine qNo hf rfl rfl rfl (congrArg (fun b => some (Value.bool b)) hb323) rfl rfl rfl ?_; clear hf; intro a hf
                      refine qNo hf rfl rfl rfl (congrArg (fun b => some (Value.bool b)) hb323) rfl rfl rfl ?_; clear hf; intro a hf
                      refine qNo hf rfl rfl rfl (congrArg (fun b => some (Value.bool b)) hb323) rfl rfl rfl ?_; clear hf; intro a hf
                      refine qNo hf rfl rfl rfl (congrArg (fun b => some (Value.bool b)) hb323) rfl rfl rfl ?_; clear hf; intro a hf
                      refine qNo hf rfl rfl rfl (congrArg (fun b => some (Value.bool b)) hb323) rfl rfl rfl ?_; clear hf; intro a hf
                      refine qNo hf rfl rfl rfl (congrArg (fun b => some (Value.bool b)) hb323) rfl rfl rfl ?_; clear hf; intro a hf
                      refine qNo hf rfl rfl rfl (congrArg (fun b => some (Value.bool b)) hb323) rfl rfl rfl ?_; clear hf; intro a hf
                      refine qNo hf rfl rfl rfl (congrArg (fun b => some (Value.bool b)) hb323) rfl rfl rfl ?_; clear hf; intro a hf
                      refine qY hf rfl rfl rfl (Y_pickT rfl (congrArg (fun b => some (Value.bool b)) hb323) rfl) ?_; clear hf; intro a hf
                      refine qNil ?_; clear hs; intro w hs
                      refine wpL_nil (then_normal ?_)
                      exact ⟨true, Option.some.inj hj318, (FrD.pick (FrD.pick (FrD.pick (FrD.pick (FrD.pick (FrD.pick (FrD.pick hf.none hf rfl) hf rfl) hf rfl) hf rfl) hf rfl) hf rfl) hf rfl), hs⟩
                    · have hj318 := bif_f hj318 hb323
                      refine qYg hf rfl rfl rfl (congrArg (fun b => some (Value.bool b)) hb323) rfl rfl rfl (Y_move rfl rfl) ?_; clear hf; intro a hf
                      refine qYg hf rfl rfl rfl (congrArg (fun b => some (Value.bool b)) hb323) rfl rfl rfl (Y_move rfl rfl) ?_; clear hf; intro a hf
                      obtain ⟨q324, hi325, hj318⟩ := bind_some hj318
                      obtain ⟨hi325a, hi325b, hi325q⟩ := idx_some hi325
                      refine qYg hf rfl rfl rfl (congrArg (fun b => some (Value.bool b)) hb323) rfl rfl rfl (Y_index rfl rfl rfl el24 ti39 (Rd.isAt (hs.rd (i := 4) rfl) (recs_at (s := 2) GWindow.len hi325q (j := 0) rfl)) hi325a (ltn hn43 hi325b)) ?_; clear hf; intro a hf
                      refine qYg hf rfl rfl rfl (congrArg (fun b => some (Value.bool b)) hb323) rfl rfl rfl (Y_fieldAddrE rfl rfl fo39_1) ?_; clear hf; intro a hf
                      refine qYg hf rfl rfl rfl (congrArg (fun b => some (Value.bool b)) hb323) rfl rfl rfl (Y_load_rd rfl rfl (fun w hs => hs.rd (i := 4) rfl) (recs_at (s := 2) GWindow.len hi325q (j := 1) rfl) ag2) ?_; clear hf; intro a hf
                      refine qYg hf rfl rfl rfl (congrArg (fun b => some (Value.bool b)) hb323) rfl rfl rfl (Y_move rfl rfl) ?_; clear hf; intro a hf
                      refine qYg hf rfl rfl rfl (congrArg (fun b => some (Value.bool b)) hb323) rfl rfl rfl (Y_move rfl rfl) ?_; clear hf; intro a hf
                      obtain ⟨q326, hi327, hj318⟩ := bind_some hj318
                      obtain ⟨hi327a, hi327b, hi327q⟩ := idx_some hi327
                      refine qYg hf rfl rfl rfl (congrArg (fun b => some (Value.bool b)) hb323) rfl rfl rfl (Y_index rfl rfl rfl el28 ti2 (Rd.isAt (hs.rd (i := 3) rfl) (at1 (ints_at hi327q))) hi327a (ltn hn31 hi327b)) ?_; clear hf; intro a hf
                      refine qYg hf rfl rfl rfl (congrArg (fun b => some (Value.bool b)) hb323) rfl rfl rfl (Y_load_rd rfl rfl (fun w hs => hs.rd (i := 3) rfl) (at1 (ints_at hi327q)) ag2) ?_; clear hf; intro a hf
                      refine qYg hf rfl rfl rfl (congrArg (fun b => some (Value.bool b)) hb323) rfl rfl rfl (Y_neq rfl rfl rfl) ?_; clear hf; intro a hf
                      refine qY hf rfl rfl rfl (Y_pickF rfl (congrArg (fun b => some (Value.bool b)) hb323) rfl) ?_; clear hf; intro a hf
                      refine qNil ?_; clear hs; intro w hs
                      refine wpL_nil (then_normal ?_)
                      exact ⟨(q324.High != q326), Option.some.inj hj318, (FrD.pick (FrD.pick (FrD.pick (FrD.pick (FrD.pick (FrD.pick (FrD.pick hf.none hf rfl) hf rfl) hf rfl) hf rfl) hf rfl) hf rfl) hf rfl), hs⟩
                  · rintro a w ⟨b316, hr_, hf, hs⟩
                    subst hr_
                    try dsimp only at hm304
                    refine wpL_cond hf rfl (fun hb328 => ?_) (fun hb328 => ?_)
                    · have hm304 := bif_t hm304 hb328
                      refine wpL_seq ?_
                      refine wpL_region ?_
                      refine sY hf hs rfl rfl rfl (Y_assign rfl rfl) ?_; clear hf; intro a hf
                      refine wpO_nil ?_
                      obtain rfl := Option.some.inj hm304
                      try dsimp only at hm
                      obtain rfl := Option.some.inj hm
                      refine wpL_ret (Qb_ret (Ql_ret (Qb_ret (ret_tmp rfl hf rfl ?_))))
                      exact ⟨_, rfl, rfl, hs.sel [] (by decide)⟩
                    · have hm304 := bif_f hm304 hb328
                      refine wpL_skip ?_
                      refine wpL_nil (Qb_normal ?_)
                      refine wpL_region ?_
                      refine sY hf hs rfl rfl rfl (Y_move rfl rfl) ?_; clear hf; intro a hf
                      refine sY hf hs rfl rfl rfl (Y_add rfl rfl rfl) ?_; clear hf; intro a hf
                      refine sY hf hs rfl rfl rfl (Y_assign rfl rfl) ?_; clear hf; intro a hf
                      refine wpO_nil ?_
                      refine wpL_nil (Ql_normal ?_)
                      exact ⟨(IntKind.i64.wrap (x278 + 1)), hm304, (FrD.pick (FrD.pick (FrD.pick (FrD.pick (FrD.pick (FrD.pick hf.none hf rfl) hf rfl) hf rfl) hf rfl) hf rfl) hf rfl), hs⟩
                · have hm304 := bif_f hm304 hb306
                  refine wpL_exit (Ql_exit (Qb_exit ?_))
                  exact ⟨Option.some.inj hm304, (FrD.pick (FrD.pick (FrD.pick (FrD.pick (FrD.pick hf.none hf rfl) hf rfl) hf rfl) hf rfl) hf rfl), hs⟩
            · rintro a w ⟨hr_, hf, hs⟩
              subst hr_
              try dsimp only at hm
              refine wpL_seq ?_
              obtain ⟨r336, hj337, hm⟩ := bind_some hm
              refine wpL_cut (fun a w => ∃ b335 : Bool, b335 = r336 ∧ Fr a 252 [(2, .bool b335)] ∧ St [] W w []) ?_ ?_
              · refine wpL_region ?_
                refine sY hf hs rfl rfl rfl (Y_move rfl rfl) ?_; clear hf; intro a hf
                refine sY hf hs rfl rfl rfl (Y_lenH rfl rfl el24 hn43) ?_; clear hf; intro a hf
                refine sY hf hs rfl rfl rfl (Y_move rfl rfl) ?_; clear hf; intro a hf
                refine sY hf hs rfl rfl rfl (Y_lenH rfl rfl el28 hn19) ?_; clear hf; intro a hf
                refine sY hf hs rfl rfl rfl (Y_eql rfl rfl rfl) ?_; clear hf; intro a hf
                refine sY hf hs rfl rfl rfl (Y_move rfl rfl) ?_; clear hf; intro a hf
                refine bsplit ((r38.1.length : Int) == (r14.1.length : Int)) (fun hb338 => ?_) (fun hb338 => ?_)
                · have hj337 := bif_t hj337 hb338
                  refine sYg hf hs rfl rfl rfl (congrArg (fun b => some (Value.bool b)) hb338) rfl rfl rfl (Y_move rfl rfl) ?_; clear hf; intro a hf
                  refine sYg hf hs rfl rfl rfl (congrArg (fun b => some (Value.bool b)) hb338) rfl rfl rfl (Y_move rfl rfl) ?_; clear hf; intro a hf
                  refine sYg hf hs rfl rfl rfl (congrArg (fun b => some (Value.bool b)) hb338) rfl rfl rfl (Y_move rfl rfl) ?_; clear hf; intro a hf
                  obtain ⟨r339, hc340, hj337⟩ := bind_some hj337
                  refine sCallg hf rfl rfl rfl (congrArg (fun b => some (Value.bool b)) hb338) rfl rfl rfl rfl (cap := []) rfl rfl en18 (impl_IsWindowSolution_ok F r4.1 A6 n7 c8 hn9 r4.2 A10 n11 c12 hn13 r14.1 A16 n17 c18 hn19 _ _ hc340 (hs.rd (i := 0) rfl) (hs.rd (i := 1) rfl) (hs.rd (i := 2) rfl)) ?_; clear hf
                  rintro _ w ⟨rfl, hs1⟩ a hf
                  have hs : St [] W w [.row A6 n7 c8 39 2 ((recs GWindow.cells) r4.1), .row A10 n11 c12 95 3 ((recs GBond.cells) r4.2), .row A16 n17 c18 2 1 (ints r14.1), .row A28 n29 c30 2 1 (ints r26.1), .row A40 n41 c42 39 2 ((recs GWindow.cells) r38.1)] := hs.ext hs1.below
                  clear hs1
                  refine sY hf hs rfl rfl rfl (Y_pickT rfl (congrArg (fun b => some (Value.bool b)) hb338) rfl) ?_; clear hf; intro a hf
                  refine sY hf hs rfl rfl rfl (Y_move rfl rfl) ?_; clear hf; intro a hf
                  refine bsplit r339 (fun hb341 => ?_) (fun hb341 => ?_)
                  · have hj337 := bif_t hj337 hb341
                    refine sYg hf hs rfl rfl rfl (congrArg (fun b => some (Value.bool b)) hb341) rfl rfl rfl (Y_move rfl rfl) ?_; clear hf; intro a hf
                    refine sYg hf hs rfl rfl rfl (congrArg (fun b => some (Value.bool b)) hb341) rfl rfl rfl (Y_move rfl rfl) ?_; clear hf; intro a hf
                    refine sYg hf hs rfl rfl rfl (congrArg (fun b => some (Value.bool b)) hb341) rfl rfl rfl (Y_move rfl rfl) ?_; clear hf; intro a hf
                    obtain ⟨r342, hc343, hj337⟩ := bind_some hj337
                    refine sCallg hf rfl rfl rfl (congrArg (fun b => some (Value.bool b)) hb341) rfl rfl rfl rfl (cap := []) rfl rfl en18 (impl_IsWindowSolution_ok F r4.1 A6 n7 c8 hn9 r4.2 A10 n11 c12 hn13 r26.1 A28 n29 c30 hn31 _ _ hc343 (hs.rd (i := 0) rfl) (hs.rd (i := 1) rfl) (hs.rd (i := 3) rfl)) ?_; clear hf
                    rintro _ w ⟨rfl, hs1⟩ a hf
                    have hs : St [] W w [.row A6 n7 c8 39 2 ((recs GWindow.cells) r4.1), .row A10 n11 c12 95 3 ((recs GBond.cells) r4.2), .row A16 n17 c18 2 1 (ints r14.1), .row A28 n29 c30 2 1 (ints r26.1), .row A40 n41 c42 39 2 ((recs GWindow.cells) r38.1)] := hs.ext hs1.below
                    clear hs1
                    refine sY hf hs rfl rfl rfl (Y_pickT rfl (congrArg (fun b => some (Value.bool b)) hb341) rfl) ?_; clear hf; intro a hf
                    refine sY hf hs rfl rfl rfl (Y_assign rfl rfl) ?_; clear hf; intro a hf
                    refine wpO_nil ?_
                    refine wpL_nil (then_normal ?_)
                    exact ⟨r342, Option.some.inj hj337, (FrD.pick hf.none hf rfl), hs.sel [] (by decide)⟩
                  · have hj337 := bif_f hj337 hb341
                    refine sNo hf rfl rfl rfl (congrArg (fun b => some (Value.bool b)) hb341) rfl rfl rfl ?_; clear hf; intro a hf
                    refine sNo hf rfl rfl rfl (congrArg (fun b => some (Value.bool b)) hb341) rfl rfl rfl ?_; clear hf; intro a hf
                    refine sNo hf rfl rfl rfl (congrArg (fun b => some (Value.bool b)) hb341) rfl rfl rfl ?_; clear hf; intro a hf
                    refine sNo hf rfl rfl rfl (congrArg (fun b => some (Value.bool b)) hb341) rfl rfl rfl ?_; clear hf; intro a hf
                    refine sY hf hs rfl rfl rfl (Y_pickF rfl (congrArg (fun b => some (Value.bool b)) hb341) rfl) ?_; clear hf; intro a hf
                    refine sY hf hs rfl rfl rfl (Y_assign rfl rfl) ?_; clear hf; intro a hf
                    refine wpO_nil ?_
                    refine wpL_nil (then_normal ?_)
                    exact ⟨false, Option.some.inj hj337, (FrD.pick hf.none hf rfl), hs.sel [] (by decide)⟩
                · have hj337 := bif_f hj337 hb338
                  refine sNo hf rfl rfl rfl (congrArg (fun b => some (Value.bool b)) hb338) rfl rfl rfl ?_; clear hf; intro a hf
                  refine sNo hf rfl rfl rfl (congrArg (fun b => some (Value.bool b)) hb338) rfl rfl rfl ?_; clear hf; intro a hf
                  refine sNo hf rfl rfl rfl (congrArg (fun b => some (Value.bool b)) hb338) rfl rfl rfl ?_; clear hf; intro a hf
                  refine sNo hf rfl rfl rfl (congrArg (fun b => some (Value.bool b)) hb338) rfl rfl rfl ?_; clear hf; intro a hf
                  refine sY hf hs rfl rfl rfl (Y_pickF rfl (congrArg (fun b => some (Value.bool b)) hb338) rfl) ?_; clear hf; intro a hf
                  refine sY hf hs rfl rfl rfl (Y_move rfl rfl) ?_; clear hf; intro a hf
                  refine sNo hf rfl rfl rfl rfl rfl rfl rfl ?_; clear hf; intro a hf
                  refine sNo hf rfl rfl rfl rfl rfl rfl rfl ?_; clear hf; intro a hf
                  refine sNo hf rfl rfl rfl rfl rfl rfl rfl ?_; clear hf; intro a hf
                  refine sNo hf rfl rfl rfl rfl rfl rfl rfl ?_; clear hf; intro a hf
                  refine sY hf hs rfl rfl rfl (Y_pickF rfl rfl rfl) ?_; clear hf; intro a hf
                  refine sY hf hs rfl rfl rfl (Y_assign rfl rfl) ?_; clear hf; intro a hf
                  refine wpO_nil ?_
                  refine wpL_nil (then_normal ?_)
                  exact ⟨false, Option.some.inj hj337, (FrD.pick hf.none hf rfl), hs.sel [] (by decide)⟩
              · rintro a w ⟨b335, hr_, hf, hs⟩
                subst hr_
                try dsimp only at hm
                obtain rfl := Option.some.inj hm
                refine wpL_ret (ret_tmp rfl hf rfl ?_)
                exact ⟨_, rfl, rfl, hs⟩

end Go.Proofs.Ytebmlphobgaboab
