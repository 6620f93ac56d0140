/- The functions do what their models say. -/
import Derived.Test.YtmijmamolmoheaaFindTourLifted2
import Derived.Test.YtmijmamolmoheaaRows
namespace Go.Proofs.Ytmijmamolmoheaa
open Go.RowKit

set_option maxRecDepth 100000 in
theorem laws_FnExactFindTour_ok (F : Nat) (p0 : List LWindow) (A_p0_1 : Option Addr) (n_p0_1 c_p0_1 : Nat) (hn_p0_1 : n_p0_1 = p0.length) (p1 : List LBond) (A_p1_1 : Option Addr) (n_p1_1 c_p1_1 : Nat) (hn_p1_1 : n_p1_1 = p1.length) (r : Bool) (W : World) (hm : laws_FnExactFindTour F p0 p1 = some r) (h_p0_1 : Rd W A_p0_1 ((recs LWindow.cells) p0)) (h_p1_1 : Rd W A_p1_1 ((recs LBond.cells) p1)) :
    Calls Try.prog 7 [.slice A_p0_1 n_p0_1 c_p0_1, .slice A_p1_1 n_p1_1 c_p1_1].toArray W fun e w' => ∃ v, e = .returned v ∧ v = .bool r ∧ St [] W w' [] := by
  subst hn_p0_1
  subst hn_p1_1
  unfold laws_FnExactFindTour at hm
  refine Calls.enter (N := 119) Try.func7 rfl rfl rfl (fun a hf => ?_)
  have hs := St.start W
  obtain ⟨w, hw_⟩ : ∃ w, w = W := ⟨W, rfl⟩
  clear hw_ w
  refine wpL_seq ?_
  refine wpL_region ?_
  refine sY hf hs rfl rfl rfl (Y_assign rfl rfl) ?_; clear hf; intro a hf
  refine wpO_nil ?_
  refine wpL_seq ?_
  refine wpL_region ?_
  refine sY hf hs rfl rfl rfl (Y_assign rfl rfl) ?_; clear hf; intro a hf
  refine wpO_nil ?_
  refine wpL_seq ?_
  refine wpL_region ?_
  refine sY hf hs rfl rfl rfl (Y_move rfl rfl) ?_; clear hf; intro a hf
  refine sY hf hs rfl rfl rfl (Y_move rfl rfl) ?_; clear hf; intro a hf
  obtain ⟨r1, hc2, hm⟩ := bind_some hm
  refine sCall hf rfl rfl rfl rfl (cap := []) rfl rfl en35 (laws_szWindowS_ok F p0 A_p0_1 p0.length c_p0_1 rfl 1048576 _ _ hc2 (h_p0_1.at hs)) ?_; clear hf
  rintro _ w ⟨rfl, hs1⟩ a hf
  have hs : St [] W w [] := hs.ext hs1.below
  clear hs1
  refine sY hf hs rfl rfl rfl (Y_assign rfl rfl) ?_; clear hf; intro a hf
  refine wpO_nil ?_
  refine wpL_seq ?_
  refine wpL_seq ?_
  refine wpL_region ?_
  refine sY hf hs rfl rfl rfl (Y_move rfl rfl) ?_; clear hf; intro a hf
  refine sY hf hs rfl rfl rfl (Y_lss rfl rfl rfl) ?_; clear hf; intro a hf
  refine wpO_nil ?_
  refine wpL_cond hf rfl (fun hb3 => ?_) (fun hb3 => ?_)
  · have hm := bif_t hm hb3
    refine wpL_seq ?_
    refine wpL_region ?_
    refine sY hf hs rfl rfl rfl (Y_assign rfl rfl) ?_; clear hf; intro a hf
    refine wpO_nil ?_
    obtain rfl := Option.some.inj hm
    refine wpL_ret (ret_tmp rfl hf rfl ?_)
    exact ⟨_, rfl, rfl, hs⟩
  · have hm := bif_f hm hb3
    refine wpL_skip ?_
    refine wpL_seq ?_
    refine wpL_region ?_
    refine sY hf hs rfl rfl rfl (Y_move rfl rfl) ?_; clear hf; intro a hf
    refine sY hf hs rfl rfl rfl (Y_move rfl rfl) ?_; clear hf; intro a hf
    obtain ⟨r4, hc5, hm⟩ := bind_some hm
    refine sCall hf rfl rfl rfl rfl (cap := []) rfl rfl en36 (laws_szBondS_ok F p1 A_p1_1 p1.length c_p1_1 rfl r1 _ _ hc5 (h_p1_1.at hs)) ?_; clear hf
    rintro _ w ⟨rfl, hs1⟩ a hf
    have hs : St [] W w [] := hs.ext hs1.below
    clear hs1
    refine sY hf hs rfl rfl rfl (Y_assign rfl rfl) ?_; clear hf; intro a hf
    refine wpO_nil ?_
    refine wpL_seq ?_
    refine wpL_seq ?_
    refine wpL_region ?_
    refine sY hf hs rfl rfl rfl (Y_move rfl rfl) ?_; clear hf; intro a hf
    refine sY hf hs rfl rfl rfl (Y_lss rfl rfl rfl) ?_; clear hf; intro a hf
    refine wpO_nil ?_
    refine wpL_cond hf rfl (fun hb6 => ?_) (fun hb6 => ?_)
    · have hm := bif_t hm hb6
      refine wpL_seq ?_
      refine wpL_region ?_
      refine sY hf hs rfl rfl rfl (Y_assign rfl rfl) ?_; clear hf; intro a hf
      refine wpO_nil ?_
      obtain rfl := Option.some.inj hm
      refine wpL_ret (ret_tmp rfl hf rfl ?_)
      exact ⟨_, rfl, rfl, hs⟩
    · have hm := bif_f hm hb6
      refine wpL_skip ?_
      refine wpL_seq ?_
      refine wpL_region ?_
      refine sY hf hs rfl rfl rfl (Y_move rfl rfl) ?_; clear hf; intro a hf
      obtain ⟨r7, hc8, hm⟩ := bind_some hm
      refine sCall hf rfl rfl rfl rfl (cap := []) rfl rfl en38 (laws_toWindowS_ok F p0 A_p0_1 p0.length c_p0_1 rfl _ _ hc8 (h_p0_1.at hs)) ?_; clear hf
      rintro _ w ⟨A9, n10, c11, rfl, hn12, hs1⟩ a hf
      have hs : St [] W w [.row A9 n10 c11 103 2 ((recs GWindow.cells) r7)] := hs.join hs1
      clear hs1
      refine sY hf hs rfl rfl rfl (Y_move rfl rfl) ?_; clear hf; intro a hf
      obtain ⟨r13, hc14, hm⟩ := bind_some hm
      refine sCall hf rfl rfl rfl rfl (cap := []) rfl rfl en39 (laws_toBondS_ok F p1 A_p1_1 p1.length c_p1_1 rfl _ _ hc14 (h_p1_1.at hs)) ?_; clear hf
      rintro _ w ⟨A15, n16, c17, rfl, hn18, hs1⟩ a hf
      have hs : St [] W w [.row A9 n10 c11 103 2 ((recs GWindow.cells) r7), .row A15 n16 c17 107 3 ((recs GBond.cells) r13)] := hs.join hs1
      clear hs1
      obtain ⟨r19, hc20, hm⟩ := bind_some hm
      refine sCall hf rfl rfl rfl rfl (cap := []) rfl rfl en37 (spec_FindTour_ok F r7 A9 n10 c11 hn12 r13 A15 n16 c17 hn18 _ _ hc20 (hs.rd (i := 0) rfl) (hs.rd (i := 1) rfl)) ?_; clear hf
      rintro _ w ⟨A21, n22, c23, rfl, hn24, hs1⟩ a hf
      have hs : St [] W w [.row A9 n10 c11 103 2 ((recs GWindow.cells) r7), .row A15 n16 c17 107 3 ((recs GBond.cells) r13), .row A21 n22 c23 2 1 (ints r19.1)] := hs.join hs1
      clear hs1
      refine sY hf hs rfl rfl rfl (Y_move rfl rfl) ?_; clear hf; intro a hf
      refine sY hf hs rfl rfl rfl (Y_extract rfl rfl rfl) ?_; clear hf; intro a hf
      refine sY hf hs rfl rfl rfl (Y_extract rfl rfl rfl) ?_; clear hf; intro a hf
      refine sY hf hs rfl rfl rfl (Y_assign rfl rfl) ?_; clear hf; intro a hf
      refine sY hf hs rfl rfl rfl (Y_assign rfl rfl) ?_; clear hf; intro a hf
      refine wpO_nil ?_
      refine wpL_seq ?_
      refine wpL_region ?_
      refine sY hf hs rfl rfl rfl (Y_move rfl rfl) ?_; clear hf; intro a hf
      obtain ⟨r25, hc26, hm⟩ := bind_some hm
      refine sCall hf rfl rfl rfl rfl (cap := []) rfl rfl en38 (laws_toWindowS_ok F p0 A_p0_1 p0.length c_p0_1 rfl _ _ hc26 (h_p0_1.at hs)) ?_; clear hf
      rintro _ w ⟨A27, n28, c29, rfl, hn30, hs1⟩ a hf
      have hs : St [] W w [.row A9 n10 c11 103 2 ((recs GWindow.cells) r7), .row A15 n16 c17 107 3 ((recs GBond.cells) r13), .row A21 n22 c23 2 1 (ints r19.1), .row A27 n28 c29 103 2 ((recs GWindow.cells) r25)] := hs.join hs1
      clear hs1
      refine sY hf hs rfl rfl rfl (Y_assign rfl rfl) ?_; clear hf; intro a hf
      refine wpO_nil ?_
      refine wpL_seq ?_
      refine wpL_region ?_
      refine sY hf hs rfl rfl rfl (Y_move rfl rfl) ?_; clear hf; intro a hf
      obtain ⟨r31, hc32, hm⟩ := bind_some hm
      refine sCall hf rfl rfl rfl rfl (cap := []) rfl rfl en39 (laws_toBondS_ok F p1 A_p1_1 p1.length c_p1_1 rfl _ _ hc32 (h_p1_1.at hs)) ?_; clear hf
      rintro _ w ⟨A33, n34, c35, rfl, hn36, hs1⟩ a hf
      have hs : St [] W w [.row A9 n10 c11 103 2 ((recs GWindow.cells) r7), .row A15 n16 c17 107 3 ((recs GBond.cells) r13), .row A21 n22 c23 2 1 (ints r19.1), .row A27 n28 c29 103 2 ((recs GWindow.cells) r25), .row A33 n34 c35 107 3 ((recs GBond.cells) r31)] := hs.join hs1
      clear hs1
      refine sY hf hs rfl rfl rfl (Y_assign rfl rfl) ?_; clear hf; intro a hf
      refine wpO_nil ?_
      refine wpL_seq ?_
      refine wpL_region ?_
      refine sY hf hs rfl rfl rfl (Y_move rfl rfl) ?_; clear hf; intro a hf
      refine sY hf hs rfl rfl rfl (Y_move rfl rfl) ?_; clear hf; intro a hf
      obtain ⟨r37, hc38, hm⟩ := bind_some hm
      refine sCall hf rfl rfl rfl rfl (cap := []) rfl rfl en40 (impl_FindTour_ok F r25 A27 n28 c29 hn30 r31 A33 n34 c35 hn36 _ _ hc38 (hs.rd (i := 3) rfl) (hs.rd (i := 4) rfl)) ?_; clear hf
      rintro _ w ⟨A39, n40, c41, rfl, hn42, hs1⟩ a hf
      have hs : St [] W w [.row A9 n10 c11 103 2 ((recs GWindow.cells) r7), .row A15 n16 c17 107 3 ((recs GBond.cells) r13), .row A21 n22 c23 2 1 (ints r19.1), .row A27 n28 c29 103 2 ((recs GWindow.cells) r25), .row A33 n34 c35 107 3 ((recs GBond.cells) r31), .row A39 n40 c41 2 1 (ints r37.1)] := hs.join hs1
      clear hs1
      refine sY hf hs rfl rfl rfl (Y_move rfl rfl) ?_; clear hf; intro a hf
      refine sY hf hs rfl rfl rfl (Y_extract rfl rfl rfl) ?_; clear hf; intro a hf
      refine sY hf hs rfl rfl rfl (Y_extract rfl rfl rfl) ?_; clear hf; intro a hf
      refine sY hf hs rfl rfl rfl (Y_assign rfl rfl) ?_; clear hf; intro a hf
      refine sY hf hs rfl rfl rfl (Y_assign rfl rfl) ?_; clear hf; intro a hf
      refine wpO_nil ?_
      refine wpL_seq ?_
      refine wpL_seq ?_
      obtain ⟨r47, hj48, hm⟩ := bind_some hm
      refine wpL_cut (fun a w => ∃ b46 : Bool, b46 = r47 ∧ Fr a 119 [(0, .slice A_p0_1 p0.length c_p0_1), (1, .slice A_p1_1 p1.length c_p1_1), (6, .slice A21 n22 c23), (7, .int .i64 r19.2), (8, .slice A27 n28 c29), (9, .slice A33 n34 c35), (10, .slice A39 n40 c41), (11, .int .i64 r37.2), (53, .bool b46)] ∧ St [] W w [.row A21 n22 c23 2 1 (ints r19.1), .row A27 n28 c29 103 2 ((recs GWindow.cells) r25), .row A33 n34 c35 107 3 ((recs GBond.cells) r31), .row A39 n40 c41 2 1 (ints r37.1)]) ?_ ?_
      · refine wpL_region ?_
        refine sY hf hs rfl rfl rfl (Y_move rfl rfl) ?_; clear hf; intro a hf
        refine sY hf hs rfl rfl rfl (Y_move rfl rfl) ?_; clear hf; intro a hf
        obtain ⟨r49, hc50, hj48⟩ := bind_some hj48
        refine sCall hf rfl rfl rfl rfl (cap := []) rfl rfl en25 (laws_eqInt64S_ok F r37.1 A39 n40 c41 hn42 r19.1 A21 n22 c23 hn24 _ _ hc50 (hs.rd (i := 5) rfl) (hs.rd (i := 2) rfl)) ?_; clear hf
        rintro _ w ⟨rfl, hs1⟩ a hf
        have hs : St [] W w [.row A9 n10 c11 103 2 ((recs GWindow.cells) r7), .row A15 n16 c17 107 3 ((recs GBond.cells) r13), .row A21 n22 c23 2 1 (ints r19.1), .row A27 n28 c29 103 2 ((recs GWindow.cells) r25), .row A33 n34 c35 107 3 ((recs GBond.cells) r31), .row A39 n40 c41 2 1 (ints r37.1)] := hs.ext hs1.below
        clear hs1
        refine sY hf hs rfl rfl rfl (Y_not rfl rfl) ?_; clear hf; intro a hf
        refine sY hf hs rfl rfl rfl (Y_move rfl rfl) ?_; clear hf; intro a hf
        refine bsplit (!r49) (fun hb51 => ?_) (fun hb51 => ?_)
        · have hj48 := bif_t hj48 hb51
          refine sNo hf rfl rfl rfl (congrArg (fun b => some (Value.bool b)) hb51) rfl rfl rfl ?_; clear hf; intro a hf
          refine sNo hf rfl rfl rfl (congrArg (fun b => some (Value.bool b)) hb51) rfl rfl rfl ?_; clear hf; intro a hf
          refine sNo hf rfl rfl rfl (congrArg (fun b => some (Value.bool b)) hb51) rfl rfl rfl ?_; clear hf; intro a hf
          refine sY hf hs rfl rfl rfl (Y_pickT rfl (congrArg (fun b => some (Value.bool b)) hb51) rfl) ?_; clear hf; intro a hf
          refine wpO_nil ?_
          refine wpL_nil (then_normal ?_)
          exact ⟨true, Option.some.inj hj48, (Fr.pick (Fr.pick (Fr.pick (Fr.pick (Fr.pick (Fr.pick (Fr.pick (Fr.pick (Fr.pick hf.none hf rfl) hf rfl) hf rfl) hf rfl) hf rfl) hf rfl) hf rfl) hf rfl) hf rfl), hs.sel [2, 3, 4, 5] (by decide)⟩
        · have hj48 := bif_f hj48 hb51
          refine sYg hf hs rfl rfl rfl (congrArg (fun b => some (Value.bool b)) hb51) rfl rfl rfl (Y_move rfl rfl) ?_; clear hf; intro a hf
          refine sYg hf hs rfl rfl rfl (congrArg (fun b => some (Value.bool b)) hb51) rfl rfl rfl (Y_move rfl rfl) ?_; clear hf; intro a hf
          refine sYg hf hs rfl rfl rfl (congrArg (fun b => some (Value.bool b)) hb51) rfl rfl rfl (Y_neq rfl rfl rfl) ?_; clear hf; intro a hf
          refine sY hf hs rfl rfl rfl (Y_pickF rfl (congrArg (fun b => some (Value.bool b)) hb51) rfl) ?_; clear hf; intro a hf
          refine wpO_nil ?_
          refine wpL_nil (then_normal ?_)
          exact ⟨(r37.2 != r19.2), Option.some.inj hj48, (Fr.pick (Fr.pick (Fr.pick (Fr.pick (Fr.pick (Fr.pick (Fr.pick (Fr.pick (Fr.pick hf.none hf rfl) hf rfl) hf rfl) hf rfl) hf rfl) hf rfl) hf rfl) hf rfl) hf rfl), hs.sel [2, 3, 4, 5] (by decide)⟩
      · rintro a w ⟨b46, hr_, hf, hs⟩
        subst hr_
        try dsimp only at hm
        refine wpL_cond hf rfl (fun hb52 => ?_) (fun hb52 => ?_)
        · have hm := bif_t hm hb52
          refine wpL_seq ?_
          refine wpL_region ?_
          refine sY hf hs rfl rfl rfl (Y_assign rfl rfl) ?_; clear hf; intro a hf
          refine wpO_nil ?_
          obtain rfl := Option.some.inj hm
          refine wpL_ret (ret_tmp rfl hf rfl ?_)
          exact ⟨_, rfl, rfl, hs.sel [] (by decide)⟩
        · have hm := bif_f hm hb52
          refine wpL_skip ?_
          refine wpL_seq ?_
          refine wpL_seq ?_
          refine wpL_region ?_
          refine sY hf hs rfl rfl rfl (Y_move rfl rfl) ?_; clear hf; intro a hf
          refine sY hf hs rfl rfl rfl (Y_move rfl rfl) ?_; clear hf; intro a hf
          obtain ⟨r53, hc54, hm⟩ := bind_some hm
          refine sCall hf rfl rfl rfl rfl (cap := []) rfl rfl en38 (laws_toWindowS_ok F p0 A_p0_1 p0.length c_p0_1 rfl _ _ hc54 (h_p0_1.at hs)) ?_; clear hf
          rintro _ w ⟨A55, n56, c57, rfl, hn58, hs1⟩ a hf
          have hs : St [] W w [.row A21 n22 c23 2 1 (ints r19.1), .row A27 n28 c29 103 2 ((recs GWindow.cells) r25), .row A33 n34 c35 107 3 ((recs GBond.cells) r31), .row A39 n40 c41 2 1 (ints r37.1), .row A55 n56 c57 103 2 ((recs GWindow.cells) r53)] := hs.join hs1
          clear hs1
          obtain ⟨r59, hc60, hm⟩ := bind_some hm
          refine sCall hf rfl rfl rfl rfl (cap := []) rfl rfl en41 (laws_eqWindowS_ok F r25 A27 n28 c29 hn30 r53 A55 n56 c57 hn58 _ _ hc60 (hs.rd (i := 1) rfl) (hs.rd (i := 4) rfl)) ?_; clear hf
          rintro _ w ⟨rfl, hs1⟩ a hf
          have hs : St [] W w [.row A21 n22 c23 2 1 (ints r19.1), .row A27 n28 c29 103 2 ((recs GWindow.cells) r25), .row A33 n34 c35 107 3 ((recs GBond.cells) r31), .row A39 n40 c41 2 1 (ints r37.1), .row A55 n56 c57 103 2 ((recs GWindow.cells) r53)] := hs.ext hs1.below
          clear hs1
          refine sY hf hs rfl rfl rfl (Y_not rfl rfl) ?_; clear hf; intro a hf
          refine wpO_nil ?_
          refine wpL_cond hf rfl (fun hb61 => ?_) (fun hb61 => ?_)
          · have hm := bif_t hm hb61
            refine wpL_seq ?_
            refine wpL_region ?_
            refine sY hf hs rfl rfl rfl (Y_assign rfl rfl) ?_; clear hf; intro a hf
            refine wpO_nil ?_
            obtain rfl := Option.some.inj hm
            refine wpL_ret (ret_tmp rfl hf rfl ?_)
            exact ⟨_, rfl, rfl, hs.sel [] (by decide)⟩
          · have hm := bif_f hm hb61
            refine wpL_skip ?_
            refine wpL_seq ?_
            refine wpL_seq ?_
            refine wpL_region ?_
            refine sY hf hs rfl rfl rfl (Y_move rfl rfl) ?_; clear hf; intro a hf
            refine sY hf hs rfl rfl rfl (Y_move rfl rfl) ?_; clear hf; intro a hf
            obtain ⟨r62, hc63, hm⟩ := bind_some hm
            refine sCall hf rfl rfl rfl rfl (cap := []) rfl rfl en39 (laws_toBondS_ok F p1 A_p1_1 p1.length c_p1_1 rfl _ _ hc63 (h_p1_1.at hs)) ?_; clear hf
            rintro _ w ⟨A64, n65, c66, rfl, hn67, hs1⟩ a hf
            have hs : St [] W w [.row A21 n22 c23 2 1 (ints r19.1), .row A27 n28 c29 103 2 ((recs GWindow.cells) r25), .row A33 n34 c35 107 3 ((recs GBond.cells) r31), .row A39 n40 c41 2 1 (ints r37.1), .row A55 n56 c57 103 2 ((recs GWindow.cells) r53), .row A64 n65 c66 107 3 ((recs GBond.cells) r62)] := hs.join hs1
            clear hs1
            obtain ⟨r68, hc69, hm⟩ := bind_some hm
            refine sCall hf rfl rfl rfl rfl (cap := []) rfl rfl en42 (laws_eqBondS_ok F r31 A33 n34 c35 hn36 r62 A64 n65 c66 hn67 _ _ hc69 (hs.rd (i := 2) rfl) (hs.rd (i := 5) rfl)) ?_; clear hf
            rintro _ w ⟨rfl, hs1⟩ a hf
            have hs : St [] W w [.row A21 n22 c23 2 1 (ints r19.1), .row A27 n28 c29 103 2 ((recs GWindow.cells) r25), .row A33 n34 c35 107 3 ((recs GBond.cells) r31), .row A39 n40 c41 2 1 (ints r37.1), .row A55 n56 c57 103 2 ((recs GWindow.cells) r53), .row A64 n65 c66 107 3 ((recs GBond.cells) r62)] := hs.ext hs1.below
            clear hs1
            refine sY hf hs rfl rfl rfl (Y_not rfl rfl) ?_; clear hf; intro a hf
            refine wpO_nil ?_
            refine wpL_cond hf rfl (fun hb70 => ?_) (fun hb70 => ?_)
            · have hm := bif_t hm hb70
              refine wpL_seq ?_
              refine wpL_region ?_
              refine sY hf hs rfl rfl rfl (Y_assign rfl rfl) ?_; clear hf; intro a hf
              refine wpO_nil ?_
              obtain rfl := Option.some.inj hm
              refine wpL_ret (ret_tmp rfl hf rfl ?_)
              exact ⟨_, rfl, rfl, hs.sel [] (by decide)⟩
            · have hm := bif_f hm hb70
              refine wpL_skip ?_
              refine wpL_seq ?_
              refine wpL_region ?_
              refine sY hf hs rfl rfl rfl (Y_assign rfl rfl) ?_; clear hf; intro a hf
              refine wpO_nil ?_
              refine wpL_seq ?_
              refine wpL_region ?_
              refine sY hf hs rfl rfl rfl (Y_move rfl rfl) ?_; clear hf; intro a hf
              refine sY hf hs rfl rfl rfl (Y_move rfl rfl) ?_; clear hf; intro a hf
              obtain ⟨r71, hc72, hm⟩ := bind_some hm
              refine sCall hf rfl rfl rfl rfl (cap := []) rfl rfl en43 (laws_markWindowS_ok F r25 A27 n28 c29 hn30 1 _ _ hc72 (hs.res _ _ (show _[1]? = some _ from rfl))) ?_; clear hf
              rintro _ w ⟨rfl, hn73, hs1⟩ a hf
              have hs : St [] W w [.row A21 n22 c23 2 1 (ints r19.1), .row A27 n28 c29 103 2 ((recs GWindow.cells) r71.2), .row A33 n34 c35 107 3 ((recs GBond.cells) r31), .row A39 n40 c41 2 1 (ints r37.1), .row A55 n56 c57 103 2 ((recs GWindow.cells) r53), .row A64 n65 c66 107 3 ((recs GBond.cells) r62)] := hs.mut (i := 1) rfl (fun b hb => muA_mem hb) hs1
              clear hs1
              refine sY hf hs rfl rfl rfl (Y_assign rfl rfl) ?_; clear hf; intro a hf
              refine wpO_nil ?_
              refine wpL_seq ?_
              refine wpL_region ?_
              refine sY hf hs rfl rfl rfl (Y_move rfl rfl) ?_; clear hf; intro a hf
              refine sY hf hs rfl rfl rfl (Y_move rfl rfl) ?_; clear hf; intro a hf
              obtain ⟨r74, hc75, hm⟩ := bind_some hm
              refine sCall hf rfl rfl rfl rfl (cap := []) rfl rfl en44 (laws_markBondS_ok F r31 A33 n34 c35 hn36 r71.1 _ _ hc75 (hs.res _ _ (show _[2]? = some _ from rfl))) ?_; clear hf
              rintro _ w ⟨rfl, hn76, hs1⟩ a hf
              have hs : St [] W w [.row A21 n22 c23 2 1 (ints r19.1), .row A27 n28 c29 103 2 ((recs GWindow.cells) r71.2), .row A33 n34 c35 107 3 ((recs GBond.cells) r74.2), .row A39 n40 c41 2 1 (ints r37.1), .row A55 n56 c57 103 2 ((recs GWindow.cells) r53), .row A64 n65 c66 107 3 ((recs GBond.cells) r62)] := hs.mut (i := 2) rfl (fun b hb => muA_mem hb) hs1
              clear hs1
              refine sY hf hs rfl rfl rfl (Y_assign rfl rfl) ?_; clear hf; intro a hf
              refine wpO_nil ?_
              refine wpL_seq ?_
              refine wpL_seq ?_
              obtain ⟨r82, hj83, hm⟩ := bind_some hm
              refine wpL_cut (fun a w => ∃ b81 : Bool, b81 = r82 ∧ Fr a 119 [(0, .slice A_p0_1 p0.length c_p0_1), (1, .slice A_p1_1 p1.length c_p1_1), (6, .slice A21 n22 c23), (7, .int .i64 r19.2), (10, .slice A39 n40 c41), (82, .bool b81)] ∧ St [] W w [.row A21 n22 c23 2 1 (ints r19.1), .row A39 n40 c41 2 1 (ints r37.1)]) ?_ ?_
              · refine wpL_region ?_
                refine sY hf hs rfl rfl rfl (Y_move rfl rfl) ?_; clear hf; intro a hf
                refine sY hf hs rfl rfl rfl (Y_lss rfl rfl rfl) ?_; clear hf; intro a hf
                refine sY hf hs rfl rfl rfl (Y_move rfl rfl) ?_; clear hf; intro a hf
                refine bsplit (decide (r74.1 < 0)) (fun hb84 => ?_) (fun hb84 => ?_)
                · have hj83 := bif_t hj83 hb84
                  refine sNo hf rfl rfl rfl (congrArg (fun b => some (Value.bool b)) hb84) rfl rfl rfl ?_; clear hf; intro a hf
                  refine sNo hf rfl rfl rfl (congrArg (fun b => some (Value.bool b)) hb84) rfl rfl rfl ?_; clear hf; intro a hf
                  refine sNo hf rfl rfl rfl (congrArg (fun b => some (Value.bool b)) hb84) rfl rfl rfl ?_; clear hf; intro a hf
                  refine sNo hf rfl rfl rfl (congrArg (fun b => some (Value.bool b)) hb84) rfl rfl rfl ?_; clear hf; intro a hf
                  refine sY hf hs rfl rfl rfl (Y_pickT rfl (congrArg (fun b => some (Value.bool b)) hb84) rfl) ?_; clear hf; intro a hf
                  refine sY hf hs rfl rfl rfl (Y_move rfl rfl) ?_; clear hf; intro a hf
                  refine sNo hf rfl rfl rfl rfl rfl rfl rfl ?_; clear hf; intro a hf
                  refine sNo hf rfl rfl rfl rfl rfl rfl rfl ?_; clear hf; intro a hf
                  refine sNo hf rfl rfl rfl rfl rfl rfl rfl ?_; clear hf; intro a hf
                  refine sY hf hs rfl rfl rfl (Y_pickT rfl rfl rfl) ?_; clear hf; intro a hf
                  refine wpO_nil ?_
                  refine wpL_nil (then_normal ?_)
                  exact ⟨true, Option.some.inj hj83, (Fr.pick (Fr.pick (Fr.pick (Fr.pick (Fr.pick (Fr.pick hf.none hf rfl) hf rfl) hf rfl) hf rfl) hf rfl) hf rfl), hs.sel [0, 3] (by decide)⟩
                · have hj83 := bif_f hj83 hb84
                  refine sYg hf hs rfl rfl rfl (congrArg (fun b => some (Value.bool b)) hb84) rfl rfl rfl (Y_move rfl rfl) ?_; clear hf; intro a hf
                  refine sYg hf hs rfl rfl rfl (congrArg (fun b => some (Value.bool b)) hb84) rfl rfl rfl (Y_move rfl rfl) ?_; clear hf; intro a hf
                  obtain ⟨r85, hc86, hj83⟩ := bind_some hj83
                  refine sCallg hf rfl rfl rfl (congrArg (fun b => some (Value.bool b)) hb84) rfl rfl rfl rfl (cap := []) rfl rfl en25 (laws_eqInt64S_ok F r37.1 A39 n40 c41 hn42 r19.1 A21 n22 c23 hn24 _ _ hc86 (hs.rd (i := 3) rfl) (hs.rd (i := 0) rfl)) ?_; clear hf
                  rintro _ w ⟨rfl, hs1⟩ a hf
                  have hs : St [] W w [.row A21 n22 c23 2 1 (ints r19.1), .row A27 n28 c29 103 2 ((recs GWindow.cells) r71.2), .row A33 n34 c35 107 3 ((recs GBond.cells) r74.2), .row A39 n40 c41 2 1 (ints r37.1), .row A55 n56 c57 103 2 ((recs GWindow.cells) r53), .row A64 n65 c66 107 3 ((recs GBond.cells) r62)] := hs.ext hs1.below
                  clear hs1
                  refine sYg hf hs rfl rfl rfl (congrArg (fun b => some (Value.bool b)) hb84) rfl rfl rfl (Y_not rfl rfl) ?_; clear hf; intro a hf
                  refine sY hf hs rfl rfl rfl (Y_pickF rfl (congrArg (fun b => some (Value.bool b)) hb84) rfl) ?_; clear hf; intro a hf
                  refine sY hf hs rfl rfl rfl (Y_move rfl rfl) ?_; clear hf; intro a hf
                  refine bsplit (!r85) (fun hb87 => ?_) (fun hb87 => ?_)
                  · have hj83 := bif_t hj83 hb87
                    refine sNo hf rfl rfl rfl (congrArg (fun b => some (Value.bool b)) hb87) rfl rfl rfl ?_; clear hf; intro a hf
                    refine sNo hf rfl rfl rfl (congrArg (fun b => some (Value.bool b)) hb87) rfl rfl rfl ?_; clear hf; intro a hf
                    refine sNo hf rfl rfl rfl (congrArg (fun b => some (Value.bool b)) hb87) rfl rfl rfl ?_; clear hf; intro a hf
                    refine sY hf hs rfl rfl rfl (Y_pickT rfl (congrArg (fun b => some (Value.bool b)) hb87) rfl) ?_; clear hf; intro a hf
                    refine wpO_nil ?_
                    refine wpL_nil (then_normal ?_)
                    exact ⟨true, Option.some.inj hj83, (Fr.pick (Fr.pick (Fr.pick (Fr.pick (Fr.pick (Fr.pick hf.none hf rfl) hf rfl) hf rfl) hf rfl) hf rfl) hf rfl), hs.sel [0, 3] (by decide)⟩
                  · have hj83 := bif_f hj83 hb87
                    refine sYg hf hs rfl rfl rfl (congrArg (fun b => some (Value.bool b)) hb87) rfl rfl rfl (Y_move rfl rfl) ?_; clear hf; intro a hf
                    refine sYg hf hs rfl rfl rfl (congrArg (fun b => some (Value.bool b)) hb87) rfl rfl rfl (Y_move rfl rfl) ?_; clear hf; intro a hf
                    refine sYg hf hs rfl rfl rfl (congrArg (fun b => some (Value.bool b)) hb87) rfl rfl rfl (Y_neq rfl rfl rfl) ?_; clear hf; intro a hf
                    refine sY hf hs rfl rfl rfl (Y_pickF rfl (congrArg (fun b => some (Value.bool b)) hb87) rfl) ?_; clear hf; intro a hf
                    refine wpO_nil ?_
                    refine wpL_nil (then_normal ?_)
                    exact ⟨(r37.2 != r19.2), Option.some.inj hj83, (Fr.pick (Fr.pick (Fr.pick (Fr.pick (Fr.pick (Fr.pick hf.none hf rfl) hf rfl) hf rfl) hf rfl) hf rfl) hf rfl), hs.sel [0, 3] (by decide)⟩
              · rintro a w ⟨b81, hr_, hf, hs⟩
                subst hr_
                try dsimp only at hm
                refine wpL_cond hf rfl (fun hb88 => ?_) (fun hb88 => ?_)
                · have hm := bif_t hm hb88
                  refine wpL_seq ?_
                  refine wpL_region ?_
                  refine sY hf hs rfl rfl rfl (Y_assign rfl rfl) ?_; clear hf; intro a hf
                  refine wpO_nil ?_
                  obtain rfl := Option.some.inj hm
                  refine wpL_ret (ret_tmp rfl hf rfl ?_)
                  exact ⟨_, rfl, rfl, hs.sel [] (by decide)⟩
                · have hm := bif_f hm hb88
                  refine wpL_skip ?_
                  refine wpL_seq ?_
                  refine wpL_region ?_
                  refine sY hf hs rfl rfl rfl (Y_assign rfl rfl) ?_; clear hf; intro a hf
                  refine wpO_nil ?_
                  refine wpL_seq ?_
                  refine wpL_region ?_
                  refine sY hf hs rfl rfl rfl (Y_move rfl rfl) ?_; clear hf; intro a hf
                  refine sY hf hs rfl rfl rfl (Y_move rfl rfl) ?_; clear hf; intro a hf
                  obtain ⟨r89, hc90, hm⟩ := bind_some hm
                  refine sCall hf rfl rfl rfl rfl (cap := []) rfl rfl en28 (laws_markInt64S_ok F r37.1 A39 n40 c41 hn42 1 _ _ hc90 (hs.res _ _ (show _[1]? = some _ from rfl))) ?_; clear hf
                  rintro _ w ⟨rfl, hn91, hs1⟩ a hf
                  have hs : St [] W w [.row A21 n22 c23 2 1 (ints r19.1), .row A39 n40 c41 2 1 (ints r89.2)] := hs.mut (i := 1) rfl (fun b hb => muA_mem hb) hs1
                  clear hs1
                  refine sY hf hs rfl rfl rfl (Y_assign rfl rfl) ?_; clear hf; intro a hf
                  refine wpO_nil ?_
                  refine wpL_seq ?_
                  refine wpL_region ?_
                  refine sY hf hs rfl rfl rfl (Y_assign rfl rfl) ?_; clear hf; intro a hf
                  refine wpO_nil ?_
                  refine wpL_seq ?_
                  refine wpL_region ?_
                  refine sY hf hs rfl rfl rfl (Y_move rfl rfl) ?_; clear hf; intro a hf
                  refine sY hf hs rfl rfl rfl (Y_move rfl rfl) ?_; clear hf; intro a hf
                  obtain ⟨r92, hc93, hm⟩ := bind_some hm
                  refine sCall hf rfl rfl rfl rfl (cap := []) rfl rfl en29 (laws_heldInt64S_ok F r89.2 A39 n40 c41 hn91 1 _ _ hc93 (hs.rd (i := 1) rfl)) ?_; clear hf
                  rintro _ w ⟨rfl, hs1⟩ a hf
                  have hs : St [] W w [.row A21 n22 c23 2 1 (ints r19.1), .row A39 n40 c41 2 1 (ints r89.2)] := hs.ext hs1.below
                  clear hs1
                  refine sY hf hs rfl rfl rfl (Y_assign rfl rfl) ?_; clear hf; intro a hf
                  refine wpO_nil ?_
                  refine wpL_seq ?_
                  refine wpL_seq ?_
                  refine wpL_region ?_
                  refine sY hf hs rfl rfl rfl (Y_move rfl rfl) ?_; clear hf; intro a hf
                  refine sY hf hs rfl rfl rfl (Y_lss rfl rfl rfl) ?_; clear hf; intro a hf
                  refine wpO_nil ?_
                  refine wpL_cond hf rfl (fun hb94 => ?_) (fun hb94 => ?_)
                  · have hm := bif_t hm hb94
                    refine wpL_seq ?_
                    refine wpL_region ?_
                    refine sY hf hs rfl rfl rfl (Y_assign rfl rfl) ?_; clear hf; intro a hf
                    refine wpO_nil ?_
                    obtain rfl := Option.some.inj hm
                    refine wpL_ret (ret_tmp rfl hf rfl ?_)
                    exact ⟨_, rfl, rfl, hs.sel [] (by decide)⟩
                  · have hm := bif_f hm hb94
                    refine wpL_skip ?_
                    refine wpL_seq ?_
                    refine wpL_seq ?_
                    refine wpL_region ?_
                    refine sY hf hs rfl rfl rfl (Y_move rfl rfl) ?_; clear hf; intro a hf
                    refine sY hf hs rfl rfl rfl (Y_move rfl rfl) ?_; clear hf; intro a hf
                    refine sY hf hs rfl rfl rfl (Y_neq rfl rfl rfl) ?_; clear hf; intro a hf
                    refine wpO_nil ?_
                    refine wpL_cond hf rfl (fun hb95 => ?_) (fun hb95 => ?_)
                    · have hm := bif_t hm hb95
                      refine wpL_seq ?_
                      refine wpL_region ?_
                      refine sY hf hs rfl rfl rfl (Y_assign rfl rfl) ?_; clear hf; intro a hf
                      refine wpO_nil ?_
                      obtain rfl := Option.some.inj hm
                      refine wpL_ret (ret_tmp rfl hf rfl ?_)
                      exact ⟨_, rfl, rfl, hs.sel [] (by decide)⟩
                    · have hm := bif_f hm hb95
                      refine wpL_skip ?_
                      refine wpL_seq ?_
                      refine wpL_region ?_
                      refine sY hf hs rfl rfl rfl (Y_move rfl rfl) ?_; clear hf; intro a hf
                      obtain ⟨r96, hc97, hm⟩ := bind_some hm
                      refine sCall hf rfl rfl rfl rfl (cap := []) rfl rfl en38 (laws_toWindowS_ok F p0 A_p0_1 p0.length c_p0_1 rfl _ _ hc97 (h_p0_1.at hs)) ?_; clear hf
                      rintro _ w ⟨A98, n99, c100, rfl, hn101, hs1⟩ a hf
                      have hs : St [] W w [.row A21 n22 c23 2 1 (ints r19.1), .row A39 n40 c41 2 1 (ints r89.2), .row A98 n99 c100 103 2 ((recs GWindow.cells) r96)] := hs.join hs1
                      clear hs1
                      refine sY hf hs rfl rfl rfl (Y_move rfl rfl) ?_; clear hf; intro a hf
                      obtain ⟨r102, hc103, hm⟩ := bind_some hm
                      refine sCall hf rfl rfl rfl rfl (cap := []) rfl rfl en39 (laws_toBondS_ok F p1 A_p1_1 p1.length c_p1_1 rfl _ _ hc103 (h_p1_1.at hs)) ?_; clear hf
                      rintro _ w ⟨A104, n105, c106, rfl, hn107, hs1⟩ a hf
                      have hs : St [] W w [.row A21 n22 c23 2 1 (ints r19.1), .row A39 n40 c41 2 1 (ints r89.2), .row A98 n99 c100 103 2 ((recs GWindow.cells) r96), .row A104 n105 c106 107 3 ((recs GBond.cells) r102)] := hs.join hs1
                      clear hs1
                      obtain ⟨r108, hc109, hm⟩ := bind_some hm
                      refine sCall hf rfl rfl rfl rfl (cap := []) rfl rfl en40 (impl_FindTour_ok F r96 A98 n99 c100 hn101 r102 A104 n105 c106 hn107 _ _ hc109 (hs.rd (i := 2) rfl) (hs.rd (i := 3) rfl)) ?_; clear hf
                      rintro _ w ⟨A110, n111, c112, rfl, hn113, hs1⟩ a hf
                      have hs : St [] W w [.row A21 n22 c23 2 1 (ints r19.1), .row A39 n40 c41 2 1 (ints r89.2), .row A98 n99 c100 103 2 ((recs GWindow.cells) r96), .row A104 n105 c106 107 3 ((recs GBond.cells) r102), .row A110 n111 c112 2 1 (ints r108.1)] := hs.join hs1
                      clear hs1
                      refine sY hf hs rfl rfl rfl (Y_move rfl rfl) ?_; clear hf; intro a hf
                      refine sY hf hs rfl rfl rfl (Y_extract rfl rfl rfl) ?_; clear hf; intro a hf
                      refine sY hf hs rfl rfl rfl (Y_extract rfl rfl rfl) ?_; clear hf; intro a hf
                      refine sY hf hs rfl rfl rfl (Y_assign rfl rfl) ?_; clear hf; intro a hf
                      refine sY hf hs rfl rfl rfl (Y_assign rfl rfl) ?_; clear hf; intro a hf
                      refine wpO_nil ?_
                      refine wpL_seq ?_
                      refine wpL_seq ?_
                      obtain ⟨r118, hj119, hm⟩ := bind_some hm
                      refine wpL_cut (fun a w => ∃ b117 : Bool, b117 = r118 ∧ Fr a 119 [(10, .slice A39 n40 c41), (13, .int .i64 r89.1), (110, .bool b117)] ∧ St [] W w [.row A39 n40 c41 2 1 (ints r89.2)]) ?_ ?_
                      · refine wpL_region ?_
                        refine sY hf hs rfl rfl rfl (Y_move rfl rfl) ?_; clear hf; intro a hf
                        refine sY hf hs rfl rfl rfl (Y_move rfl rfl) ?_; clear hf; intro a hf
                        obtain ⟨r120, hc121, hj119⟩ := bind_some hj119
                        refine sCall hf rfl rfl rfl rfl (cap := []) rfl rfl en25 (laws_eqInt64S_ok F r108.1 A110 n111 c112 hn113 r19.1 A21 n22 c23 hn24 _ _ hc121 (hs.rd (i := 4) rfl) (hs.rd (i := 0) rfl)) ?_; clear hf
                        rintro _ w ⟨rfl, hs1⟩ a hf
                        have hs : St [] W w [.row A21 n22 c23 2 1 (ints r19.1), .row A39 n40 c41 2 1 (ints r89.2), .row A98 n99 c100 103 2 ((recs GWindow.cells) r96), .row A104 n105 c106 107 3 ((recs GBond.cells) r102), .row A110 n111 c112 2 1 (ints r108.1)] := hs.ext hs1.below
                        clear hs1
                        refine sY hf hs rfl rfl rfl (Y_not rfl rfl) ?_; clear hf; intro a hf
                        refine sY hf hs rfl rfl rfl (Y_move rfl rfl) ?_; clear hf; intro a hf
                        refine bsplit (!r120) (fun hb122 => ?_) (fun hb122 => ?_)
                        · have hj119 := bif_t hj119 hb122
                          refine sNo hf rfl rfl rfl (congrArg (fun b => some (Value.bool b)) hb122) rfl rfl rfl ?_; clear hf; intro a hf
                          refine sNo hf rfl rfl rfl (congrArg (fun b => some (Value.bool b)) hb122) rfl rfl rfl ?_; clear hf; intro a hf
                          refine sNo hf rfl rfl rfl (congrArg (fun b => some (Value.bool b)) hb122) rfl rfl rfl ?_; clear hf; intro a hf
                          refine sY hf hs rfl rfl rfl (Y_pickT rfl (congrArg (fun b => some (Value.bool b)) hb122) rfl) ?_; clear hf; intro a hf
                          refine wpO_nil ?_
                          refine wpL_nil (then_normal ?_)
                          exact ⟨true, Option.some.inj hj119, (Fr.pick (Fr.pick (Fr.pick hf.none hf rfl) hf rfl) hf rfl), hs.sel [1] (by decide)⟩
                        · have hj119 := bif_f hj119 hb122
                          refine sYg hf hs rfl rfl rfl (congrArg (fun b => some (Value.bool b)) hb122) rfl rfl rfl (Y_move rfl rfl) ?_; clear hf; intro a hf
                          refine sYg hf hs rfl rfl rfl (congrArg (fun b => some (Value.bool b)) hb122) rfl rfl rfl (Y_move rfl rfl) ?_; clear hf; intro a hf
                          refine sYg hf hs rfl rfl rfl (congrArg (fun b => some (Value.bool b)) hb122) rfl rfl rfl (Y_neq rfl rfl rfl) ?_; clear hf; intro a hf
                          refine sY hf hs rfl rfl rfl (Y_pickF rfl (congrArg (fun b => some (Value.bool b)) hb122) rfl) ?_; clear hf; intro a hf
                          refine wpO_nil ?_
                          refine wpL_nil (then_normal ?_)
                          exact ⟨(r108.2 != r19.2), Option.some.inj hj119, (Fr.pick (Fr.pick (Fr.pick hf.none hf rfl) hf rfl) hf rfl), hs.sel [1] (by decide)⟩
                      · rintro a w ⟨b117, hr_, hf, hs⟩
                        subst hr_
                        try dsimp only at hm
                        refine wpL_cond hf rfl (fun hb123 => ?_) (fun hb123 => ?_)
                        · have hm := bif_t hm hb123
                          refine wpL_seq ?_
                          refine wpL_region ?_
                          refine sY hf hs rfl rfl rfl (Y_assign rfl rfl) ?_; clear hf; intro a hf
                          refine wpO_nil ?_
                          obtain rfl := Option.some.inj hm
                          refine wpL_ret (ret_tmp rfl hf rfl ?_)
                          exact ⟨_, rfl, rfl, hs.sel [] (by decide)⟩
                        · have hm := bif_f hm hb123
                          refine wpL_skip ?_
                          refine wpL_seq ?_
                          refine wpL_region ?_
                          refine sY hf hs rfl rfl rfl (Y_assign rfl rfl) ?_; clear hf; intro a hf
                          refine wpO_nil ?_
                          refine wpL_seq ?_
                          refine wpL_region ?_
                          refine sY hf hs rfl rfl rfl (Y_move rfl rfl) ?_; clear hf; intro a hf
                          refine sY hf hs rfl rfl rfl (Y_move rfl rfl) ?_; clear hf; intro a hf
                          obtain ⟨r124, hc125, hm⟩ := bind_some hm
                          refine sCall hf rfl rfl rfl rfl (cap := []) rfl rfl en29 (laws_heldInt64S_ok F r89.2 A39 n40 c41 hn91 1 _ _ hc125 (hs.rd (i := 0) rfl)) ?_; clear hf
                          rintro _ w ⟨rfl, hs1⟩ a hf
                          have hs : St [] W w [.row A39 n40 c41 2 1 (ints r89.2)] := hs.ext hs1.below
                          clear hs1
                          refine sY hf hs rfl rfl rfl (Y_assign rfl rfl) ?_; clear hf; intro a hf
                          refine wpO_nil ?_
                          refine wpL_seq ?_
                          refine wpL_seq ?_
                          refine wpL_region ?_
                          refine sY hf hs rfl rfl rfl (Y_move rfl rfl) ?_; clear hf; intro a hf
                          refine sY hf hs rfl rfl rfl (Y_lss rfl rfl rfl) ?_; clear hf; intro a hf
                          refine wpO_nil ?_
                          refine wpL_cond hf rfl (fun hb126 => ?_) (fun hb126 => ?_)
                          · have hm := bif_t hm hb126
                            refine wpL_seq ?_
                            refine wpL_region ?_
                            refine sY hf hs rfl rfl rfl (Y_assign rfl rfl) ?_; clear hf; intro a hf
                            refine wpO_nil ?_
                            obtain rfl := Option.some.inj hm
                            refine wpL_ret (ret_tmp rfl hf rfl ?_)
                            exact ⟨_, rfl, rfl, hs.sel [] (by decide)⟩
                          · have hm := bif_f hm hb126
                            refine wpL_skip ?_
                            refine wpL_seq ?_
                            refine wpL_seq ?_
                            refine wpL_region ?_
                            refine sY hf hs rfl rfl rfl (Y_move rfl rfl) ?_; clear hf; intro a hf
                            refine sY hf hs rfl rfl rfl (Y_move rfl rfl) ?_; clear hf; intro a hf
                            refine sY hf hs rfl rfl rfl (Y_neq rfl rfl rfl) ?_; clear hf; intro a hf
                            refine wpO_nil ?_
                            refine wpL_cond hf rfl (fun hb127 => ?_) (fun hb127 => ?_)
                            · have hm := bif_t hm hb127
                              refine wpL_seq ?_
                              refine wpL_region ?_
                              refine sY hf hs rfl rfl rfl (Y_assign rfl rfl) ?_; clear hf; intro a hf
                              refine wpO_nil ?_
                              obtain rfl := Option.some.inj hm
                              refine wpL_ret (ret_tmp rfl hf rfl ?_)
                              exact ⟨_, rfl, rfl, hs.sel [] (by decide)⟩
                            · have hm := bif_f hm hb127
                              refine wpL_skip ?_
                              refine wpL_seq ?_
                              refine wpL_region ?_
                              refine sY hf hs rfl rfl rfl (Y_assign rfl rfl) ?_; clear hf; intro a hf
                              refine wpO_nil ?_
                              obtain rfl := Option.some.inj hm
                              refine wpL_ret (ret_tmp rfl hf rfl ?_)
                              exact ⟨_, rfl, rfl, hs.sel [] (by decide)⟩

end Go.Proofs.Ytmijmamolmoheaa
