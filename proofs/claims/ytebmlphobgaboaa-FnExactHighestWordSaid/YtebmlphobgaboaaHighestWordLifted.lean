/- The functions do what their models say. -/
import Derived.Test.YtebmlphobgaboaaHighestWordLifted2
import Derived.Test.YtebmlphobgaboaaRows
namespace Go.Proofs.Ytebmlphobgaboaa
open Go.RowKit

set_option maxHeartbeats 2000000 in
set_option maxRecDepth 100000 in
theorem laws_FnExactHighestWord_ok (F : Nat) (p0 : List (List (List Int))) (A_p0_1 : Option Addr) (n_p0_1 c_p0_1 : Nat) (hn_p0_1 : n_p0_1 = p0.length) (p1 : List Int) (A_p1_1 : Option Addr) (n_p1_1 c_p1_1 : Nat) (hn_p1_1 : n_p1_1 = p1.length) (p2 : Int) (r : Bool) (W : World) (hm : laws_FnExactHighestWord F p0 p1 p2 = some r) (h_p0_1 : RdC W A_p0_1 p0) (h_p1_1 : Rd W A_p1_1 (ints p1)) :
    Calls Try.prog 3 [.slice A_p0_1 n_p0_1 c_p0_1, .slice A_p1_1 n_p1_1 c_p1_1, .int .i64 p2].toArray W fun e w' => ∃ v, e = .returned v ∧ v = .bool r ∧ St [] W w' [] := by
  subst hn_p0_1
  subst hn_p1_1
  unfold laws_FnExactHighestWord at hm
  refine Calls.enter (N := 143) Try.func3 rfl rfl rfl (fun a hf => ?_)
  have hs := St.start W
  obtain ⟨w, hw_⟩ : ∃ w, w = W := ⟨W, rfl⟩
  clear hw_ w
  refine wpL_seq ?_
  refine wpL_region ?_
  refine sY hf hs rfl rfl rfl (Y_assign rfl rfl) ?_; clear hf; intro a hf
  refine wpO_nil ?_
  refine wpL_seq ?_
  refine wpL_seq ?_
  refine wpL_region ?_
  refine sY hf hs rfl rfl rfl (Y_move rfl rfl) ?_; clear hf; intro a hf
  refine sY hf hs rfl rfl rfl (Y_lenH rfl rfl el23 rfl) ?_; clear hf; intro a hf
  refine sY hf hs rfl rfl rfl (Y_gtr rfl rfl rfl) ?_; clear hf; intro a hf
  refine wpO_nil ?_
  refine wpL_cond hf rfl (fun hb1 => ?_) (fun hb1 => ?_)
  · have hm := bif_t hm hb1
    refine wpL_seq ?_
    refine wpL_region ?_
    refine sY hf hs rfl rfl rfl (Y_assign rfl rfl) ?_; clear hf; intro a hf
    refine wpO_nil ?_
    obtain rfl := Option.some.inj hm
    refine wpL_ret (ret_tmp rfl hf rfl ?_)
    exact ⟨_, rfl, rfl, hs⟩
  · have hm := bif_f hm hb1
    refine wpL_skip ?_
    refine wpL_seq ?_
    refine wpL_region ?_
    refine sY hf hs rfl rfl rfl (Y_assign rfl rfl) ?_; clear hf; intro a hf
    refine wpO_nil ?_
    refine wpL_seq ?_
    refine wpL_region ?_
    refine sY hf hs rfl rfl rfl (Y_move rfl rfl) ?_; clear hf; intro a hf
    refine sY hf hs rfl rfl rfl (Y_move rfl rfl) ?_; clear hf; intro a hf
    obtain ⟨r2, hc3, hm⟩ := bind_some hm
    refine sCall hf rfl rfl rfl rfl (cap := []) rfl rfl en9 (laws_szInt64SSS_ok F p0 A_p0_1 p0.length c_p0_1 rfl 1048576 _ _ hc3 (h_p0_1.at hs)) ?_; clear hf
    rintro _ w ⟨rfl, hs1⟩ a hf
    have hs : St [] W w [] := hs.ext hs1.below
    clear hs1
    refine sY hf hs rfl rfl rfl (Y_assign rfl rfl) ?_; clear hf; intro a hf
    refine wpO_nil ?_
    refine wpL_seq ?_
    refine wpL_seq ?_
    refine wpL_region ?_
    refine sY hf hs rfl rfl rfl (Y_move rfl rfl) ?_; clear hf; intro a hf
    refine sY hf hs rfl rfl rfl (Y_lss rfl rfl rfl) ?_; clear hf; intro a hf
    refine wpO_nil ?_
    refine wpL_cond hf rfl (fun hb4 => ?_) (fun hb4 => ?_)
    · have hm := bif_t hm hb4
      refine wpL_seq ?_
      refine wpL_region ?_
      refine sY hf hs rfl rfl rfl (Y_assign rfl rfl) ?_; clear hf; intro a hf
      refine wpO_nil ?_
      obtain rfl := Option.some.inj hm
      refine wpL_ret (ret_tmp rfl hf rfl ?_)
      exact ⟨_, rfl, rfl, hs⟩
    · have hm := bif_f hm hb4
      refine wpL_skip ?_
      refine wpL_seq ?_
      refine wpL_region ?_
      refine sY hf hs rfl rfl rfl (Y_move rfl rfl) ?_; clear hf; intro a hf
      obtain ⟨r5, hc6, hm⟩ := bind_some hm
      refine sCall hf rfl rfl rfl rfl (cap := []) rfl rfl en11 (laws_toInt64SSS_ok F p0 A_p0_1 p0.length c_p0_1 rfl _ _ hc6 (h_p0_1.at hs)) ?_; clear hf
      rintro _ w ⟨A7, n8, c9, vs11, rfl, hn10, hs1⟩ a hf
      have hs : St [] W w [.cub A7 n8 c9 59 23 2 vs11 r5] := hs.join hs1
      clear hs1
      refine sY hf hs rfl rfl rfl (Y_move rfl rfl) ?_; clear hf; intro a hf
      obtain ⟨r12, hc13, hm⟩ := bind_some hm
      refine sCall hf rfl rfl rfl rfl (cap := []) rfl rfl en12 (laws_toInt64S_ok F p1 A_p1_1 p1.length c_p1_1 rfl _ _ hc13 (h_p1_1.at hs)) ?_; clear hf
      rintro _ w ⟨A14, n15, c16, rfl, hn17, hs1⟩ a hf
      have hs : St [] W w [.cub A7 n8 c9 59 23 2 vs11 r5, .row A14 n15 c16 2 1 (ints r12)] := hs.join hs1
      clear hs1
      refine sY hf hs rfl rfl rfl (Y_move rfl rfl) ?_; clear hf; intro a hf
      obtain ⟨r18, hc19, hm⟩ := bind_some hm
      refine sCall hf rfl rfl rfl rfl (cap := []) rfl rfl en10 (spec_HighestWord_ok F r5 A7 n8 c9 hn10 r12 A14 n15 c16 hn17 p2 _ _ hc19 (hs.rdC (i := 0) rfl) (hs.rd (i := 1) rfl)) ?_; clear hf
      rintro _ w ⟨A20, n21, c22, rfl, hn23, hs1⟩ a hf
      have hs : St [] W w [.cub A7 n8 c9 59 23 2 vs11 r5, .row A14 n15 c16 2 1 (ints r12), .row A20 n21 c22 2 1 (ints r18.1)] := hs.join hs1
      clear hs1
      refine sY hf hs rfl rfl rfl (Y_move rfl rfl) ?_; clear hf; intro a hf
      refine sY hf hs rfl rfl rfl (Y_extract rfl rfl rfl) ?_; clear hf; intro a hf
      refine sY hf hs rfl rfl rfl (Y_extract rfl rfl rfl) ?_; clear hf; intro a hf
      refine sY hf hs rfl rfl rfl (Y_extract rfl rfl rfl) ?_; clear hf; intro a hf
      refine sY hf hs rfl rfl rfl (Y_assign rfl rfl) ?_; clear hf; intro a hf
      refine sY hf hs rfl rfl rfl (Y_assign rfl rfl) ?_; clear hf; intro a hf
      refine sY hf hs rfl rfl rfl (Y_assign rfl rfl) ?_; clear hf; intro a hf
      refine wpO_nil ?_
      refine wpL_seq ?_
      refine wpL_region ?_
      refine sY hf hs rfl rfl rfl (Y_move rfl rfl) ?_; clear hf; intro a hf
      obtain ⟨r24, hc25, hm⟩ := bind_some hm
      refine sCall hf rfl rfl rfl rfl (cap := []) rfl rfl en11 (laws_toInt64SSS_ok F p0 A_p0_1 p0.length c_p0_1 rfl _ _ hc25 (h_p0_1.at hs)) ?_; clear hf
      rintro _ w ⟨A26, n27, c28, vs30, rfl, hn29, hs1⟩ a hf
      have hs : St [] W w [.cub A7 n8 c9 59 23 2 vs11 r5, .row A14 n15 c16 2 1 (ints r12), .row A20 n21 c22 2 1 (ints r18.1), .cub A26 n27 c28 59 23 2 vs30 r24] := hs.join hs1
      clear hs1
      refine sY hf hs rfl rfl rfl (Y_assign rfl rfl) ?_; clear hf; intro a hf
      refine wpO_nil ?_
      refine wpL_seq ?_
      refine wpL_region ?_
      refine sY hf hs rfl rfl rfl (Y_move rfl rfl) ?_; clear hf; intro a hf
      obtain ⟨r31, hc32, hm⟩ := bind_some hm
      refine sCall hf rfl rfl rfl rfl (cap := []) rfl rfl en12 (laws_toInt64S_ok F p1 A_p1_1 p1.length c_p1_1 rfl _ _ hc32 (h_p1_1.at hs)) ?_; clear hf
      rintro _ w ⟨A33, n34, c35, rfl, hn36, hs1⟩ a hf
      have hs : St [] W w [.cub A7 n8 c9 59 23 2 vs11 r5, .row A14 n15 c16 2 1 (ints r12), .row A20 n21 c22 2 1 (ints r18.1), .cub A26 n27 c28 59 23 2 vs30 r24, .row A33 n34 c35 2 1 (ints r31)] := hs.join hs1
      clear hs1
      refine sY hf hs rfl rfl rfl (Y_assign rfl rfl) ?_; clear hf; intro a hf
      refine wpO_nil ?_
      refine wpL_seq ?_
      refine wpL_region ?_
      refine sY hf hs rfl rfl rfl (Y_move rfl rfl) ?_; clear hf; intro a hf
      refine sY hf hs rfl rfl rfl (Y_move rfl rfl) ?_; clear hf; intro a hf
      refine sY hf hs rfl rfl rfl (Y_move rfl rfl) ?_; clear hf; intro a hf
      obtain ⟨r37, hc38, hm⟩ := bind_some hm
      refine sCall hf rfl rfl rfl rfl (cap := []) rfl rfl en13 (impl_HighestWord_ok F r24 A26 n27 c28 hn29 r31 A33 n34 c35 hn36 p2 _ _ hc38 (hs.rdC (i := 3) rfl) (hs.rd (i := 4) rfl)) ?_; clear hf
      rintro _ w ⟨A39, n40, c41, rfl, hn42, hs1⟩ a hf
      have hs : St [] W w [.cub A7 n8 c9 59 23 2 vs11 r5, .row A14 n15 c16 2 1 (ints r12), .row A20 n21 c22 2 1 (ints r18.1), .cub A26 n27 c28 59 23 2 vs30 r24, .row A33 n34 c35 2 1 (ints r31), .row A39 n40 c41 2 1 (ints r37.1)] := hs.join hs1
      clear hs1
      refine sY hf hs rfl rfl rfl (Y_move rfl rfl) ?_; clear hf; intro a hf
      refine sY hf hs rfl rfl rfl (Y_extract rfl rfl rfl) ?_; clear hf; intro a hf
      refine sY hf hs rfl rfl rfl (Y_extract rfl rfl rfl) ?_; clear hf; intro a hf
      refine sY hf hs rfl rfl rfl (Y_extract rfl rfl rfl) ?_; clear hf; intro a hf
      refine sY hf hs rfl rfl rfl (Y_assign rfl rfl) ?_; clear hf; intro a hf
      refine sY hf hs rfl rfl rfl (Y_assign rfl rfl) ?_; clear hf; intro a hf
      refine sY hf hs rfl rfl rfl (Y_assign rfl rfl) ?_; clear hf; intro a hf
      refine wpO_nil ?_
      refine wpL_seq ?_
      refine wpL_seq ?_
      obtain ⟨r48, hj49, hm⟩ := bind_some hm
      refine wpL_cut (fun a w => ∃ b47 : Bool, b47 = r48 ∧ Fr a 143 [(0, .slice A_p0_1 p0.length c_p0_1), (1, .slice A_p1_1 p1.length c_p1_1), (2, .int .i64 p2), (8, .slice A20 n21 c22), (9, .int .i64 r18.2.1), (10, .int .i64 r18.2.2), (11, .slice A26 n27 c28), (12, .slice A33 n34 c35), (13, .slice A39 n40 c41), (14, .int .i64 r37.2.1), (15, .int .i64 r37.2.2), (65, .bool b47)] ∧ St [] W w [.row A20 n21 c22 2 1 (ints r18.1), .cub A26 n27 c28 59 23 2 vs30 r24, .row A33 n34 c35 2 1 (ints r31), .row A39 n40 c41 2 1 (ints r37.1)]) ?_ ?_
      · refine wpL_region ?_
        refine sY hf hs rfl rfl rfl (Y_move rfl rfl) ?_; clear hf; intro a hf
        refine sY hf hs rfl rfl rfl (Y_move rfl rfl) ?_; clear hf; intro a hf
        obtain ⟨r50, hc51, hj49⟩ := bind_some hj49
        refine sCall hf rfl rfl rfl rfl (cap := []) rfl rfl en14 (laws_eqInt64S_ok F r37.1 A39 n40 c41 hn42 r18.1 A20 n21 c22 hn23 _ _ hc51 (hs.rd (i := 5) rfl) (hs.rd (i := 2) rfl)) ?_; clear hf
        rintro _ w ⟨rfl, hs1⟩ a hf
        have hs : St [] W w [.cub A7 n8 c9 59 23 2 vs11 r5, .row A14 n15 c16 2 1 (ints r12), .row A20 n21 c22 2 1 (ints r18.1), .cub A26 n27 c28 59 23 2 vs30 r24, .row A33 n34 c35 2 1 (ints r31), .row A39 n40 c41 2 1 (ints r37.1)] := hs.ext hs1.below
        clear hs1
        refine sY hf hs rfl rfl rfl (Y_not rfl rfl) ?_; clear hf; intro a hf
        refine sY hf hs rfl rfl rfl (Y_move rfl rfl) ?_; clear hf; intro a hf
        refine bsplit (!r50) (fun hb52 => ?_) (fun hb52 => ?_)
        · have hj49 := bif_t hj49 hb52
          refine sNo hf rfl rfl rfl (congrArg (fun b => some (Value.bool b)) hb52) rfl rfl rfl ?_; clear hf; intro a hf
          refine sNo hf rfl rfl rfl (congrArg (fun b => some (Value.bool b)) hb52) rfl rfl rfl ?_; clear hf; intro a hf
          refine sNo hf rfl rfl rfl (congrArg (fun b => some (Value.bool b)) hb52) rfl rfl rfl ?_; clear hf; intro a hf
          refine sY hf hs rfl rfl rfl (Y_pickT rfl (congrArg (fun b => some (Value.bool b)) hb52) rfl) ?_; clear hf; intro a hf
          refine sY hf hs rfl rfl rfl (Y_move rfl rfl) ?_; clear hf; intro a hf
          refine sNo hf rfl rfl rfl rfl rfl rfl rfl ?_; clear hf; intro a hf
          refine sNo hf rfl rfl rfl rfl rfl rfl rfl ?_; clear hf; intro a hf
          refine sNo hf rfl rfl rfl rfl rfl rfl rfl ?_; clear hf; intro a hf
          refine sY hf hs rfl rfl rfl (Y_pickT rfl rfl rfl) ?_; clear hf; intro a hf
          refine wpO_nil ?_
          refine wpL_nil (then_normal ?_)
          exact ⟨true, Option.some.inj hj49, (FrD.pick (FrD.pick (FrD.pick (FrD.pick (FrD.pick (FrD.pick (FrD.pick (FrD.pick (FrD.pick (FrD.pick (FrD.pick (FrD.pick hf.none hf rfl) hf rfl) hf rfl) hf rfl) hf rfl) hf rfl) hf rfl) hf rfl) hf rfl) hf rfl) hf rfl) hf rfl), hs.sel [2, 3, 4, 5] (by decide)⟩
        · have hj49 := bif_f hj49 hb52
          refine sYg hf hs rfl rfl rfl (congrArg (fun b => some (Value.bool b)) hb52) rfl rfl rfl (Y_move rfl rfl) ?_; clear hf; intro a hf
          refine sYg hf hs rfl rfl rfl (congrArg (fun b => some (Value.bool b)) hb52) rfl rfl rfl (Y_move rfl rfl) ?_; clear hf; intro a hf
          refine sYg hf hs rfl rfl rfl (congrArg (fun b => some (Value.bool b)) hb52) rfl rfl rfl (Y_neq rfl rfl rfl) ?_; clear hf; intro a hf
          refine sY hf hs rfl rfl rfl (Y_pickF rfl (congrArg (fun b => some (Value.bool b)) hb52) rfl) ?_; clear hf; intro a hf
          refine sY hf hs rfl rfl rfl (Y_move rfl rfl) ?_; clear hf; intro a hf
          refine bsplit (r37.2.1 != r18.2.1) (fun hb53 => ?_) (fun hb53 => ?_)
          · have hj49 := bif_t hj49 hb53
            refine sNo hf rfl rfl rfl (congrArg (fun b => some (Value.bool b)) hb53) rfl rfl rfl ?_; clear hf; intro a hf
            refine sNo hf rfl rfl rfl (congrArg (fun b => some (Value.bool b)) hb53) rfl rfl rfl ?_; clear hf; intro a hf
            refine sNo hf rfl rfl rfl (congrArg (fun b => some (Value.bool b)) hb53) rfl rfl rfl ?_; clear hf; intro a hf
            refine sY hf hs rfl rfl rfl (Y_pickT rfl (congrArg (fun b => some (Value.bool b)) hb53) rfl) ?_; clear hf; intro a hf
            refine wpO_nil ?_
            refine wpL_nil (then_normal ?_)
            exact ⟨true, Option.some.inj hj49, (FrD.pick (FrD.pick (FrD.pick (FrD.pick (FrD.pick (FrD.pick (FrD.pick (FrD.pick (FrD.pick (FrD.pick (FrD.pick (FrD.pick hf.none hf rfl) hf rfl) hf rfl) hf rfl) hf rfl) hf rfl) hf rfl) hf rfl) hf rfl) hf rfl) hf rfl) hf rfl), hs.sel [2, 3, 4, 5] (by decide)⟩
          · have hj49 := bif_f hj49 hb53
            refine sYg hf hs rfl rfl rfl (congrArg (fun b => some (Value.bool b)) hb53) rfl rfl rfl (Y_move rfl rfl) ?_; clear hf; intro a hf
            refine sYg hf hs rfl rfl rfl (congrArg (fun b => some (Value.bool b)) hb53) rfl rfl rfl (Y_move rfl rfl) ?_; clear hf; intro a hf
            refine sYg hf hs rfl rfl rfl (congrArg (fun b => some (Value.bool b)) hb53) rfl rfl rfl (Y_neq rfl rfl rfl) ?_; clear hf; intro a hf
            refine sY hf hs rfl rfl rfl (Y_pickF rfl (congrArg (fun b => some (Value.bool b)) hb53) rfl) ?_; clear hf; intro a hf
            refine wpO_nil ?_
            refine wpL_nil (then_normal ?_)
            exact ⟨(r37.2.2 != r18.2.2), Option.some.inj hj49, (FrD.pick (FrD.pick (FrD.pick (FrD.pick (FrD.pick (FrD.pick (FrD.pick (FrD.pick (FrD.pick (FrD.pick (FrD.pick (FrD.pick hf.none hf rfl) hf rfl) hf rfl) hf rfl) hf rfl) hf rfl) hf rfl) hf rfl) hf rfl) hf rfl) hf rfl) hf rfl), hs.sel [2, 3, 4, 5] (by decide)⟩
      · rintro a w ⟨b47, hr_, hf, hs⟩
        subst hr_
        try dsimp only at hm
        refine wpL_cond hf rfl (fun hb54 => ?_) (fun hb54 => ?_)
        · have hm := bif_t hm hb54
          refine wpL_seq ?_
          refine wpL_region ?_
          refine sY hf hs rfl rfl rfl (Y_assign rfl rfl) ?_; clear hf; intro a hf
          refine wpO_nil ?_
          obtain rfl := Option.some.inj hm
          refine wpL_ret (ret_tmp rfl hf rfl ?_)
          exact ⟨_, rfl, rfl, hs.sel [] (by decide)⟩
        · have hm := bif_f hm hb54
          refine wpL_skip ?_
          refine wpL_seq ?_
          refine wpL_seq ?_
          refine wpL_region ?_
          refine sY hf hs rfl rfl rfl (Y_move rfl rfl) ?_; clear hf; intro a hf
          refine sY hf hs rfl rfl rfl (Y_move rfl rfl) ?_; clear hf; intro a hf
          obtain ⟨r55, hc56, hm⟩ := bind_some hm
          refine sCall hf rfl rfl rfl rfl (cap := []) rfl rfl en11 (laws_toInt64SSS_ok F p0 A_p0_1 p0.length c_p0_1 rfl _ _ hc56 (h_p0_1.at hs)) ?_; clear hf
          rintro _ w ⟨A57, n58, c59, vs61, rfl, hn60, hs1⟩ a hf
          have hs : St [] W w [.row A20 n21 c22 2 1 (ints r18.1), .cub A26 n27 c28 59 23 2 vs30 r24, .row A33 n34 c35 2 1 (ints r31), .row A39 n40 c41 2 1 (ints r37.1), .cub A57 n58 c59 59 23 2 vs61 r55] := hs.join hs1
          clear hs1
          obtain ⟨r62, hc63, hm⟩ := bind_some hm
          refine sCall hf rfl rfl rfl rfl (cap := []) rfl rfl en15 (laws_eqInt64SSS_ok F r24 A26 n27 c28 hn29 r55 A57 n58 c59 hn60 _ _ hc63 (hs.rdC (i := 1) rfl) (hs.rdC (i := 4) rfl)) ?_; clear hf
          rintro _ w ⟨rfl, hs1⟩ a hf
          have hs : St [] W w [.row A20 n21 c22 2 1 (ints r18.1), .cub A26 n27 c28 59 23 2 vs30 r24, .row A33 n34 c35 2 1 (ints r31), .row A39 n40 c41 2 1 (ints r37.1), .cub A57 n58 c59 59 23 2 vs61 r55] := hs.ext hs1.below
          clear hs1
          refine sY hf hs rfl rfl rfl (Y_not rfl rfl) ?_; clear hf; intro a hf
          refine wpO_nil ?_
          refine wpL_cond hf rfl (fun hb64 => ?_) (fun hb64 => ?_)
          · have hm := bif_t hm hb64
            refine wpL_seq ?_
            refine wpL_region ?_
            refine sY hf hs rfl rfl rfl (Y_assign rfl rfl) ?_; clear hf; intro a hf
            refine wpO_nil ?_
            obtain rfl := Option.some.inj hm
            refine wpL_ret (ret_tmp rfl hf rfl ?_)
            exact ⟨_, rfl, rfl, hs.sel [] (by decide)⟩
          · have hm := bif_f hm hb64
            refine wpL_skip ?_
            refine wpL_seq ?_
            refine wpL_seq ?_
            refine wpL_region ?_
            refine sY hf hs rfl rfl rfl (Y_move rfl rfl) ?_; clear hf; intro a hf
            refine sY hf hs rfl rfl rfl (Y_move rfl rfl) ?_; clear hf; intro a hf
            obtain ⟨r65, hc66, hm⟩ := bind_some hm
            refine sCall hf rfl rfl rfl rfl (cap := []) rfl rfl en12 (laws_toInt64S_ok F p1 A_p1_1 p1.length c_p1_1 rfl _ _ hc66 (h_p1_1.at hs)) ?_; clear hf
            rintro _ w ⟨A67, n68, c69, rfl, hn70, hs1⟩ a hf
            have hs : St [] W w [.row A20 n21 c22 2 1 (ints r18.1), .cub A26 n27 c28 59 23 2 vs30 r24, .row A33 n34 c35 2 1 (ints r31), .row A39 n40 c41 2 1 (ints r37.1), .cub A57 n58 c59 59 23 2 vs61 r55, .row A67 n68 c69 2 1 (ints r65)] := hs.join hs1
            clear hs1
            obtain ⟨r71, hc72, hm⟩ := bind_some hm
            refine sCall hf rfl rfl rfl rfl (cap := []) rfl rfl en14 (laws_eqInt64S_ok F r31 A33 n34 c35 hn36 r65 A67 n68 c69 hn70 _ _ hc72 (hs.rd (i := 2) rfl) (hs.rd (i := 5) rfl)) ?_; clear hf
            rintro _ w ⟨rfl, hs1⟩ a hf
            have hs : St [] W w [.row A20 n21 c22 2 1 (ints r18.1), .cub A26 n27 c28 59 23 2 vs30 r24, .row A33 n34 c35 2 1 (ints r31), .row A39 n40 c41 2 1 (ints r37.1), .cub A57 n58 c59 59 23 2 vs61 r55, .row A67 n68 c69 2 1 (ints r65)] := hs.ext hs1.below
            clear hs1
            refine sY hf hs rfl rfl rfl (Y_not rfl rfl) ?_; clear hf; intro a hf
            refine wpO_nil ?_
            refine wpL_cond hf rfl (fun hb73 => ?_) (fun hb73 => ?_)
            · have hm := bif_t hm hb73
              refine wpL_seq ?_
              refine wpL_region ?_
              refine sY hf hs rfl rfl rfl (Y_assign rfl rfl) ?_; clear hf; intro a hf
              refine wpO_nil ?_
              obtain rfl := Option.some.inj hm
              refine wpL_ret (ret_tmp rfl hf rfl ?_)
              exact ⟨_, rfl, rfl, hs.sel [] (by decide)⟩
            · have hm := bif_f hm hb73
              refine wpL_skip ?_
              refine wpL_seq ?_
              refine wpL_region ?_
              refine sY hf hs rfl rfl rfl (Y_assign rfl rfl) ?_; clear hf; intro a hf
              refine wpO_nil ?_
              refine wpL_seq ?_
              refine wpL_region ?_
              refine sY hf hs rfl rfl rfl (Y_move rfl rfl) ?_; clear hf; intro a hf
              refine sY hf hs rfl rfl rfl (Y_move rfl rfl) ?_; clear hf; intro a hf
              obtain ⟨r74, hc75, hm⟩ := bind_some hm
              refine sCall hf rfl rfl rfl rfl (cap := []) rfl rfl en16 (laws_markInt64SSS_ok F r24 A26 n27 c28 hn29 vs30 1 _ _ hc75 (hs.res _ _ (show _[1]? = some _ from rfl))) ?_; clear hf
              rintro _ w ⟨vs77, rfl, hn76, hs1⟩ a hf
              have hs : St [] W w [.row A20 n21 c22 2 1 (ints r18.1), .cub A26 n27 c28 59 23 2 vs77 r74.2, .row A33 n34 c35 2 1 (ints r31), .row A39 n40 c41 2 1 (ints r37.1), .cub A57 n58 c59 59 23 2 vs61 r55, .row A67 n68 c69 2 1 (ints r65)] := hs.mut (i := 1) rfl (fun b hb => muC_mem.1 hb) hs1
              clear hs1
              refine sY hf hs rfl rfl rfl (Y_assign rfl rfl) ?_; clear hf; intro a hf
              refine wpO_nil ?_
              refine wpL_seq ?_
              refine wpL_region ?_
              refine sY hf hs rfl rfl rfl (Y_move rfl rfl) ?_; clear hf; intro a hf
              refine sY hf hs rfl rfl rfl (Y_move rfl rfl) ?_; clear hf; intro a hf
              obtain ⟨r78, hc79, hm⟩ := bind_some hm
              refine sCall hf rfl rfl rfl rfl (cap := []) rfl rfl en17 (laws_markInt64S_ok F r31 A33 n34 c35 hn36 r74.1 _ _ hc79 (hs.res _ _ (show _[2]? = some _ from rfl))) ?_; clear hf
              rintro _ w ⟨rfl, hn80, hs1⟩ a hf
              have hs : St [] W w [.row A20 n21 c22 2 1 (ints r18.1), .cub A26 n27 c28 59 23 2 vs77 r74.2, .row A33 n34 c35 2 1 (ints r78.2), .row A39 n40 c41 2 1 (ints r37.1), .cub A57 n58 c59 59 23 2 vs61 r55, .row A67 n68 c69 2 1 (ints r65)] := hs.mut (i := 2) rfl (fun b hb => muA_mem hb) hs1
              clear hs1
              refine sY hf hs rfl rfl rfl (Y_assign rfl rfl) ?_; clear hf; intro a hf
              refine wpO_nil ?_
              refine wpL_seq ?_
              refine wpL_seq ?_
              obtain ⟨r87, hj88, hm⟩ := bind_some hm
              refine wpL_cut (fun a w => ∃ b86 : Bool, b86 = r87 ∧ Fr a 143 [(0, .slice A_p0_1 p0.length c_p0_1), (1, .slice A_p1_1 p1.length c_p1_1), (2, .int .i64 p2), (8, .slice A20 n21 c22), (9, .int .i64 r18.2.1), (10, .int .i64 r18.2.2), (13, .slice A39 n40 c41), (99, .bool b86)] ∧ St [] W w [.row A20 n21 c22 2 1 (ints r18.1), .row A39 n40 c41 2 1 (ints r37.1)]) ?_ ?_
              · refine wpL_region ?_
                refine sY hf hs rfl rfl rfl (Y_move rfl rfl) ?_; clear hf; intro a hf
                refine sY hf hs rfl rfl rfl (Y_lss rfl rfl rfl) ?_; clear hf; intro a hf
                refine sY hf hs rfl rfl rfl (Y_move rfl rfl) ?_; clear hf; intro a hf
                refine bsplit (decide (r78.1 < 0)) (fun hb89 => ?_) (fun hb89 => ?_)
                · have hj88 := bif_t hj88 hb89
                  refine sNo hf rfl rfl rfl (congrArg (fun b => some (Value.bool b)) hb89) rfl rfl rfl ?_; clear hf; intro a hf
                  refine sNo hf rfl rfl rfl (congrArg (fun b => some (Value.bool b)) hb89) rfl rfl rfl ?_; clear hf; intro a hf
                  refine sNo hf rfl rfl rfl (congrArg (fun b => some (Value.bool b)) hb89) rfl rfl rfl ?_; clear hf; intro a hf
                  refine sNo hf rfl rfl rfl (congrArg (fun b => some (Value.bool b)) hb89) rfl rfl rfl ?_; clear hf; intro a hf
                  refine sY hf hs rfl rfl rfl (Y_pickT rfl (congrArg (fun b => some (Value.bool b)) hb89) rfl) ?_; clear hf; intro a hf
                  refine sY hf hs rfl rfl rfl (Y_move rfl rfl) ?_; clear hf; intro a hf
                  refine sNo hf rfl rfl rfl rfl rfl rfl rfl ?_; clear hf; intro a hf
                  refine sNo hf rfl rfl rfl rfl rfl rfl rfl ?_; clear hf; intro a hf
                  refine sNo hf rfl rfl rfl rfl rfl rfl rfl ?_; clear hf; intro a hf
                  refine sY hf hs rfl rfl rfl (Y_pickT rfl rfl rfl) ?_; clear hf; intro a hf
                  refine sY hf hs rfl rfl rfl (Y_move rfl rfl) ?_; clear hf; intro a hf
                  refine sNo hf rfl rfl rfl rfl rfl rfl rfl ?_; clear hf; intro a hf
                  refine sNo hf rfl rfl rfl rfl rfl rfl rfl ?_; clear hf; intro a hf
                  refine sNo hf rfl rfl rfl rfl rfl rfl rfl ?_; clear hf; intro a hf
                  refine sY hf hs rfl rfl rfl (Y_pickT rfl rfl rfl) ?_; clear hf; intro a hf
                  refine wpO_nil ?_
                  refine wpL_nil (then_normal ?_)
                  exact ⟨true, Option.some.inj hj88, (FrD.pick (FrD.pick (FrD.pick (FrD.pick (FrD.pick (FrD.pick (FrD.pick (FrD.pick hf.none hf rfl) hf rfl) hf rfl) hf rfl) hf rfl) hf rfl) hf rfl) hf rfl), hs.sel [0, 3] (by decide)⟩
                · have hj88 := bif_f hj88 hb89
                  refine sYg hf hs rfl rfl rfl (congrArg (fun b => some (Value.bool b)) hb89) rfl rfl rfl (Y_move rfl rfl) ?_; clear hf; intro a hf
                  refine sYg hf hs rfl rfl rfl (congrArg (fun b => some (Value.bool b)) hb89) rfl rfl rfl (Y_move rfl rfl) ?_; clear hf; intro a hf
                  obtain ⟨r90, hc91, hj88⟩ := bind_some hj88
                  refine sCallg hf rfl rfl rfl (congrArg (fun b => some (Value.bool b)) hb89) rfl rfl rfl rfl (cap := []) rfl rfl en14 (laws_eqInt64S_ok F r37.1 A39 n40 c41 hn42 r18.1 A20 n21 c22 hn23 _ _ hc91 (hs.rd (i := 3) rfl) (hs.rd (i := 0) rfl)) ?_; clear hf
                  rintro _ w ⟨rfl, hs1⟩ a hf
                  have hs : St [] W w [.row A20 n21 c22 2 1 (ints r18.1), .cub A26 n27 c28 59 23 2 vs77 r74.2, .row A33 n34 c35 2 1 (ints r78.2), .row A39 n40 c41 2 1 (ints r37.1), .cub A57 n58 c59 59 23 2 vs61 r55, .row A67 n68 c69 2 1 (ints r65)] := hs.ext hs1.below
                  clear hs1
                  refine sYg hf hs rfl rfl rfl (congrArg (fun b => some (Value.bool b)) hb89) rfl rfl rfl (Y_not rfl rfl) ?_; clear hf; intro a hf
                  refine sY hf hs rfl rfl rfl (Y_pickF rfl (congrArg (fun b => some (Value.bool b)) hb89) rfl) ?_; clear hf; intro a hf
                  refine sY hf hs rfl rfl rfl (Y_move rfl rfl) ?_; clear hf; intro a hf
                  refine bsplit (!r90) (fun hb92 => ?_) (fun hb92 => ?_)
                  · have hj88 := bif_t hj88 hb92
                    refine sNo hf rfl rfl rfl (congrArg (fun b => some (Value.bool b)) hb92) rfl rfl rfl ?_; clear hf; intro a hf
                    refine sNo hf rfl rfl rfl (congrArg (fun b => some (Value.bool b)) hb92) rfl rfl rfl ?_; clear hf; intro a hf
                    refine sNo hf rfl rfl rfl (congrArg (fun b => some (Value.bool b)) hb92) rfl rfl rfl ?_; clear hf; intro a hf
                    refine sY hf hs rfl rfl rfl (Y_pickT rfl (congrArg (fun b => some (Value.bool b)) hb92) rfl) ?_; clear hf; intro a hf
                    refine sY hf hs rfl rfl rfl (Y_move rfl rfl) ?_; clear hf; intro a hf
                    refine sNo hf rfl rfl rfl rfl rfl rfl rfl ?_; clear hf; intro a hf
                    refine sNo hf rfl rfl rfl rfl rfl rfl rfl ?_; clear hf; intro a hf
                    refine sNo hf rfl rfl rfl rfl rfl rfl rfl ?_; clear hf; intro a hf
                    refine sY hf hs rfl rfl rfl (Y_pickT rfl rfl rfl) ?_; clear hf; intro a hf
                    refine wpO_nil ?_
                    refine wpL_nil (then_normal ?_)
                    exact ⟨true, Option.some.inj hj88, (FrD.pick (FrD.pick (FrD.pick (FrD.pick (FrD.pick (FrD.pick (FrD.pick (FrD.pick hf.none hf rfl) hf rfl) hf rfl) hf rfl) hf rfl) hf rfl) hf rfl) hf rfl), hs.sel [0, 3] (by decide)⟩
                  · have hj88 := bif_f hj88 hb92
                    refine sYg hf hs rfl rfl rfl (congrArg (fun b => some (Value.bool b)) hb92) rfl rfl rfl (Y_move rfl rfl) ?_; clear hf; intro a hf
                    refine sYg hf hs rfl rfl rfl (congrArg (fun b => some (Value.bool b)) hb92) rfl rfl rfl (Y_move rfl rfl) ?_; clear hf; intro a hf
                    refine sYg hf hs rfl rfl rfl (congrArg (fun b => some (Value.bool b)) hb92) rfl rfl rfl (Y_neq rfl rfl rfl) ?_; clear hf; intro a hf
                    refine sY hf hs rfl rfl rfl (Y_pickF rfl (congrArg (fun b => some (Value.bool b)) hb92) rfl) ?_; clear hf; intro a hf
                    refine sY hf hs rfl rfl rfl (Y_move rfl rfl) ?_; clear hf; intro a hf
                    refine bsplit (r37.2.1 != r18.2.1) (fun hb93 => ?_) (fun hb93 => ?_)
                    · have hj88 := bif_t hj88 hb93
                      refine sNo hf rfl rfl rfl (congrArg (fun b => some (Value.bool b)) hb93) rfl rfl rfl ?_; clear hf; intro a hf
                      refine sNo hf rfl rfl rfl (congrArg (fun b => some (Value.bool b)) hb93) rfl rfl rfl ?_; clear hf; intro a hf
                      refine sNo hf rfl rfl rfl (congrArg (fun b => some (Value.bool b)) hb93) rfl rfl rfl ?_; clear hf; intro a hf
                      refine sY hf hs rfl rfl rfl (Y_pickT rfl (congrArg (fun b => some (Value.bool b)) hb93) rfl) ?_; clear hf; intro a hf
                      refine wpO_nil ?_
                      refine wpL_nil (then_normal ?_)
                      exact ⟨true, Option.some.inj hj88, (FrD.pick (FrD.pick (FrD.pick (FrD.pick (FrD.pick (FrD.pick (FrD.pick (FrD.pick hf.none hf rfl) hf rfl) hf rfl) hf rfl) hf rfl) hf rfl) hf rfl) hf rfl), hs.sel [0, 3] (by decide)⟩
                    · have hj88 := bif_f hj88 hb93
                      refine sYg hf hs rfl rfl rfl (congrArg (fun b => some (Value.bool b)) hb93) rfl rfl rfl (Y_move rfl rfl) ?_; clear hf; intro a hf
                      refine sYg hf hs rfl rfl rfl (congrArg (fun b => some (Value.bool b)) hb93) rfl rfl rfl (Y_move rfl rfl) ?_; clear hf; intro a hf
                      refine sYg hf hs rfl rfl rfl (congrArg (fun b => some (Value.bool b)) hb93) rfl rfl rfl (Y_neq rfl rfl rfl) ?_; clear hf; intro a hf
                      refine sY hf hs rfl rfl rfl (Y_pickF rfl (congrArg (fun b => some (Value.bool b)) hb93) rfl) ?_; clear hf; intro a hf
                      refine wpO_nil ?_
                      refine wpL_nil (then_normal ?_)
                      exact ⟨(r37.2.2 != r18.2.2), Option.some.inj hj88, (FrD.pick (FrD.pick (FrD.pick (FrD.pick (FrD.pick (FrD.pick (FrD.pick (FrD.pick hf.none hf rfl) hf rfl) hf rfl) hf rfl) hf rfl) hf rfl) hf rfl) hf rfl), hs.sel [0, 3] (by decide)⟩
              · rintro a w ⟨b86, hr_, hf, hs⟩
                subst hr_
                try dsimp only at hm
                refine wpL_cond hf rfl (fun hb94 => ?_) (fun hb94 => ?_)
                · have hm := bif_t hm hb94
                  refine wpL_seq ?_
                  refine wpL_region ?_
                  refine sY hf hs rfl rfl rfl (Y_assign rfl rfl) ?_; clear hf; intro a hf
                  refine wpO_nil ?_
                  obtain rfl := Option.some.inj hm
                  refine wpL_ret (ret_tmp rfl hf rfl ?_)
                  exact ⟨_, rfl, rfl, hs.sel [] (by decide)⟩
                · have hm := bif_f hm hb94
                  refine wpL_skip ?_
                  refine wpL_seq ?_
                  refine wpL_region ?_
                  refine sY hf hs rfl rfl rfl (Y_assign rfl rfl) ?_; clear hf; intro a hf
                  refine wpO_nil ?_
                  refine wpL_seq ?_
                  refine wpL_region ?_
                  refine sY hf hs rfl rfl rfl (Y_move rfl rfl) ?_; clear hf; intro a hf
                  refine sY hf hs rfl rfl rfl (Y_move rfl rfl) ?_; clear hf; intro a hf
                  obtain ⟨r95, hc96, hm⟩ := bind_some hm
                  refine sCall hf rfl rfl rfl rfl (cap := []) rfl rfl en17 (laws_markInt64S_ok F r37.1 A39 n40 c41 hn42 1 _ _ hc96 (hs.res _ _ (show _[1]? = some _ from rfl))) ?_; clear hf
                  rintro _ w ⟨rfl, hn97, hs1⟩ a hf
                  have hs : St [] W w [.row A20 n21 c22 2 1 (ints r18.1), .row A39 n40 c41 2 1 (ints r95.2)] := hs.mut (i := 1) rfl (fun b hb => muA_mem hb) hs1
                  clear hs1
                  refine sY hf hs rfl rfl rfl (Y_assign rfl rfl) ?_; clear hf; intro a hf
                  refine wpO_nil ?_
                  refine wpL_seq ?_
                  refine wpL_region ?_
                  refine sY hf hs rfl rfl rfl (Y_assign rfl rfl) ?_; clear hf; intro a hf
                  refine wpO_nil ?_
                  refine wpL_seq ?_
                  refine wpL_region ?_
                  refine sY hf hs rfl rfl rfl (Y_move rfl rfl) ?_; clear hf; intro a hf
                  refine sY hf hs rfl rfl rfl (Y_move rfl rfl) ?_; clear hf; intro a hf
                  obtain ⟨r98, hc99, hm⟩ := bind_some hm
                  refine sCall hf rfl rfl rfl rfl (cap := []) rfl rfl en18 (laws_heldInt64S_ok F r95.2 A39 n40 c41 hn97 1 _ _ hc99 (hs.rd (i := 1) rfl)) ?_; clear hf
                  rintro _ w ⟨rfl, hs1⟩ a hf
                  have hs : St [] W w [.row A20 n21 c22 2 1 (ints r18.1), .row A39 n40 c41 2 1 (ints r95.2)] := hs.ext hs1.below
                  clear hs1
                  refine sY hf hs rfl rfl rfl (Y_assign rfl rfl) ?_; clear hf; intro a hf
                  refine wpO_nil ?_
                  refine wpL_seq ?_
                  refine wpL_seq ?_
                  refine wpL_region ?_
                  refine sY hf hs rfl rfl rfl (Y_move rfl rfl) ?_; clear hf; intro a hf
                  refine sY hf hs rfl rfl rfl (Y_lss rfl rfl rfl) ?_; clear hf; intro a hf
                  refine wpO_nil ?_
                  refine wpL_cond hf rfl (fun hb100 => ?_) (fun hb100 => ?_)
                  · have hm := bif_t hm hb100
                    refine wpL_seq ?_
                    refine wpL_region ?_
                    refine sY hf hs rfl rfl rfl (Y_assign rfl rfl) ?_; clear hf; intro a hf
                    refine wpO_nil ?_
                    obtain rfl := Option.some.inj hm
                    refine wpL_ret (ret_tmp rfl hf rfl ?_)
                    exact ⟨_, rfl, rfl, hs.sel [] (by decide)⟩
                  · have hm := bif_f hm hb100
                    refine wpL_skip ?_
                    refine wpL_seq ?_
                    refine wpL_seq ?_
                    refine wpL_region ?_
                    refine sY hf hs rfl rfl rfl (Y_move rfl rfl) ?_; clear hf; intro a hf
                    refine sY hf hs rfl rfl rfl (Y_move rfl rfl) ?_; clear hf; intro a hf
                    refine sY hf hs rfl rfl rfl (Y_neq rfl rfl rfl) ?_; clear hf; intro a hf
                    refine wpO_nil ?_
                    refine wpL_cond hf rfl (fun hb101 => ?_) (fun hb101 => ?_)
                    · have hm := bif_t hm hb101
                      refine wpL_seq ?_
                      refine wpL_region ?_
                      refine sY hf hs rfl rfl rfl (Y_assign rfl rfl) ?_; clear hf; intro a hf
                      refine wpO_nil ?_
                      obtain rfl := Option.some.inj hm
                      refine wpL_ret (ret_tmp rfl hf rfl ?_)
                      exact ⟨_, rfl, rfl, hs.sel [] (by decide)⟩
                    · have hm := bif_f hm hb101
                      refine wpL_skip ?_
                      refine wpL_seq ?_
                      refine wpL_region ?_
                      refine sY hf hs rfl rfl rfl (Y_move rfl rfl) ?_; clear hf; intro a hf
                      obtain ⟨r102, hc103, hm⟩ := bind_some hm
                      refine sCall hf rfl rfl rfl rfl (cap := []) rfl rfl en11 (laws_toInt64SSS_ok F p0 A_p0_1 p0.length c_p0_1 rfl _ _ hc103 (h_p0_1.at hs)) ?_; clear hf
                      rintro _ w ⟨A104, n105, c106, vs108, rfl, hn107, hs1⟩ a hf
                      have hs : St [] W w [.row A20 n21 c22 2 1 (ints r18.1), .row A39 n40 c41 2 1 (ints r95.2), .cub A104 n105 c106 59 23 2 vs108 r102] := hs.join hs1
                      clear hs1
                      refine sY hf hs rfl rfl rfl (Y_move rfl rfl) ?_; clear hf; intro a hf
                      obtain ⟨r109, hc110, hm⟩ := bind_some hm
                      refine sCall hf rfl rfl rfl rfl (cap := []) rfl rfl en12 (laws_toInt64S_ok F p1 A_p1_1 p1.length c_p1_1 rfl _ _ hc110 (h_p1_1.at hs)) ?_; clear hf
                      rintro _ w ⟨A111, n112, c113, rfl, hn114, hs1⟩ a hf
                      have hs : St [] W w [.row A20 n21 c22 2 1 (ints r18.1), .row A39 n40 c41 2 1 (ints r95.2), .cub A104 n105 c106 59 23 2 vs108 r102, .row A111 n112 c113 2 1 (ints r109)] := hs.join hs1
                      clear hs1
                      refine sY hf hs rfl rfl rfl (Y_move rfl rfl) ?_; clear hf; intro a hf
                      obtain ⟨r115, hc116, hm⟩ := bind_some hm
                      refine sCall hf rfl rfl rfl rfl (cap := []) rfl rfl en13 (impl_HighestWord_ok F r102 A104 n105 c106 hn107 r109 A111 n112 c113 hn114 p2 _ _ hc116 (hs.rdC (i := 2) rfl) (hs.rd (i := 3) rfl)) ?_; clear hf
                      rintro _ w ⟨A117, n118, c119, rfl, hn120, hs1⟩ a hf
                      have hs : St [] W w [.row A20 n21 c22 2 1 (ints r18.1), .row A39 n40 c41 2 1 (ints r95.2), .cub A104 n105 c106 59 23 2 vs108 r102, .row A111 n112 c113 2 1 (ints r109), .row A117 n118 c119 2 1 (ints r115.1)] := hs.join hs1
                      clear hs1
                      refine sY hf hs rfl rfl rfl (Y_move rfl rfl) ?_; clear hf; intro a hf
                      refine sY hf hs rfl rfl rfl (Y_extract rfl rfl rfl) ?_; clear hf; intro a hf
                      refine sY hf hs rfl rfl rfl (Y_extract rfl rfl rfl) ?_; clear hf; intro a hf
                      refine sY hf hs rfl rfl rfl (Y_extract rfl rfl rfl) ?_; clear hf; intro a hf
                      refine sY hf hs rfl rfl rfl (Y_assign rfl rfl) ?_; clear hf; intro a hf
                      refine sY hf hs rfl rfl rfl (Y_assign rfl rfl) ?_; clear hf; intro a hf
                      refine sY hf hs rfl rfl rfl (Y_assign rfl rfl) ?_; clear hf; intro a hf
                      refine wpO_nil ?_
                      refine wpL_seq ?_
                      refine wpL_seq ?_
                      obtain ⟨r126, hj127, hm⟩ := bind_some hm
                      refine wpL_cut (fun a w => ∃ b125 : Bool, b125 = r126 ∧ Fr a 143 [(13, .slice A39 n40 c41), (17, .int .i64 r95.1), (134, .bool b125)] ∧ St [] W w [.row A39 n40 c41 2 1 (ints r95.2)]) ?_ ?_
                      · refine wpL_region ?_
                        refine sY hf hs rfl rfl rfl (Y_move rfl rfl) ?_; clear hf; intro a hf
                        refine sY hf hs rfl rfl rfl (Y_move rfl rfl) ?_; clear hf; intro a hf
                        obtain ⟨r128, hc129, hj127⟩ := bind_some hj127
                        refine sCall hf rfl rfl rfl rfl (cap := []) rfl rfl en14 (laws_eqInt64S_ok F r115.1 A117 n118 c119 hn120 r18.1 A20 n21 c22 hn23 _ _ hc129 (hs.rd (i := 4) rfl) (hs.rd (i := 0) rfl)) ?_; clear hf
                        rintro _ w ⟨rfl, hs1⟩ a hf
                        have hs : St [] W w [.row A20 n21 c22 2 1 (ints r18.1), .row A39 n40 c41 2 1 (ints r95.2), .cub A104 n105 c106 59 23 2 vs108 r102, .row A111 n112 c113 2 1 (ints r109), .row A117 n118 c119 2 1 (ints r115.1)] := hs.ext hs1.below
                        clear hs1
                        refine sY hf hs rfl rfl rfl (Y_not rfl rfl) ?_; clear hf; intro a hf
                        refine sY hf hs rfl rfl rfl (Y_move rfl rfl) ?_; clear hf; intro a hf
                        refine bsplit (!r128) (fun hb130 => ?_) (fun hb130 => ?_)
                        · have hj127 := bif_t hj127 hb130
                          refine sNo hf rfl rfl rfl (congrArg (fun b => some (Value.bool b)) hb130) rfl rfl rfl ?_; clear hf; intro a hf
                          refine sNo hf rfl rfl rfl (congrArg (fun b => some (Value.bool b)) hb130) rfl rfl rfl ?_; clear hf; intro a hf
                          refine sNo hf rfl rfl rfl (congrArg (fun b => some (Value.bool b)) hb130) rfl rfl rfl ?_; clear hf; intro a hf
                          refine sY hf hs rfl rfl rfl (Y_pickT rfl (congrArg (fun b => some (Value.bool b)) hb130) rfl) ?_; clear hf; intro a hf
                          refine sY hf hs rfl rfl rfl (Y_move rfl rfl) ?_; clear hf; intro a hf
                          refine sNo hf rfl rfl rfl rfl rfl rfl rfl ?_; clear hf; intro a hf
                          refine sNo hf rfl rfl rfl rfl rfl rfl rfl ?_; clear hf; intro a hf
                          refine sNo hf rfl rfl rfl rfl rfl rfl rfl ?_; clear hf; intro a hf
                          refine sY hf hs rfl rfl rfl (Y_pickT rfl rfl rfl) ?_; clear hf; intro a hf
                          refine wpO_nil ?_
                          refine wpL_nil (then_normal ?_)
                          exact ⟨true, Option.some.inj hj127, (FrD.pick (FrD.pick (FrD.pick hf.none hf rfl) hf rfl) hf rfl), hs.sel [1] (by decide)⟩
                        · have hj127 := bif_f hj127 hb130
                          refine sYg hf hs rfl rfl rfl (congrArg (fun b => some (Value.bool b)) hb130) rfl rfl rfl (Y_move rfl rfl) ?_; clear hf; intro a hf
                          refine sYg hf hs rfl rfl rfl (congrArg (fun b => some (Value.bool b)) hb130) rfl rfl rfl (Y_move rfl rfl) ?_; clear hf; intro a hf
                          refine sYg hf hs rfl rfl rfl (congrArg (fun b => some (Value.bool b)) hb130) rfl rfl rfl (Y_neq rfl rfl rfl) ?_; clear hf; intro a hf
                          refine sY hf hs rfl rfl rfl (Y_pickF rfl (congrArg (fun b => some (Value.bool b)) hb130) rfl) ?_; clear hf; intro a hf
                          refine sY hf hs rfl rfl rfl (Y_move rfl rfl) ?_; clear hf; intro a hf
                          refine bsplit (r115.2.1 != r18.2.1) (fun hb131 => ?_) (fun hb131 => ?_)
                          · have hj127 := bif_t hj127 hb131
                            refine sNo hf rfl rfl rfl (congrArg (fun b => some (Value.bool b)) hb131) rfl rfl rfl ?_; clear hf; intro a hf
                            refine sNo hf rfl rfl rfl (congrArg (fun b => some (Value.bool b)) hb131) rfl rfl rfl ?_; clear hf; intro a hf
                            refine sNo hf rfl rfl rfl (congrArg (fun b => some (Value.bool b)) hb131) rfl rfl rfl ?_; clear hf; intro a hf
                            refine sY hf hs rfl rfl rfl (Y_pickT rfl (congrArg (fun b => some (Value.bool b)) hb131) rfl) ?_; clear hf; intro a hf
                            refine wpO_nil ?_
                            refine wpL_nil (then_normal ?_)
                            exact ⟨true, Option.some.inj hj127, (FrD.pick (FrD.pick (FrD.pick hf.none hf rfl) hf rfl) hf rfl), hs.sel [1] (by decide)⟩
                          · have hj127 := bif_f hj127 hb131
                            refine sYg hf hs rfl rfl rfl (congrArg (fun b => some (Value.bool b)) hb131) rfl rfl rfl (Y_move rfl rfl) ?_; clear hf; intro a hf
                            refine sYg hf hs rfl rfl rfl (congrArg (fun b => some (Value.bool b)) hb131) rfl rfl rfl (Y_move rfl rfl) ?_; clear hf; intro a hf
                            refine sYg hf hs rfl rfl rfl (congrArg (fun b => some (Value.bool b)) hb131) rfl rfl rfl (Y_neq rfl rfl rfl) ?_; clear hf; intro a hf
                            refine sY hf hs rfl rfl rfl (Y_pickF rfl (congrArg (fun b => some (Value.bool b)) hb131) rfl) ?_; clear hf; intro a hf
                            refine wpO_nil ?_
                            refine wpL_nil (then_normal ?_)
                            exact ⟨(r115.2.2 != r18.2.2), Option.some.inj hj127, (FrD.pick (FrD.pick (FrD.pick hf.none hf rfl) hf rfl) hf rfl), hs.sel [1] (by decide)⟩
                      · rintro a w ⟨b125, hr_, hf, hs⟩
                        subst hr_
                        try dsimp only at hm
                        refine wpL_cond hf rfl (fun hb132 => ?_) (fun hb132 => ?_)
                        · have hm := bif_t hm hb132
                          refine wpL_seq ?_
                          refine wpL_region ?_
                          refine sY hf hs rfl rfl rfl (Y_assign rfl rfl) ?_; clear hf; intro a hf
                          refine wpO_nil ?_
                          obtain rfl := Option.some.inj hm
                          refine wpL_ret (ret_tmp rfl hf rfl ?_)
                          exact ⟨_, rfl, rfl, hs.sel [] (by decide)⟩
                        · have hm := bif_f hm hb132
                          refine wpL_skip ?_
                          refine wpL_seq ?_
                          refine wpL_region ?_
                          refine sY hf hs rfl rfl rfl (Y_assign rfl rfl) ?_; clear hf; intro a hf
                          refine wpO_nil ?_
                          refine wpL_seq ?_
                          refine wpL_region ?_
                          refine sY hf hs rfl rfl rfl (Y_move rfl rfl) ?_; clear hf; intro a hf
                          refine sY hf hs rfl rfl rfl (Y_move rfl rfl) ?_; clear hf; intro a hf
                          obtain ⟨r133, hc134, hm⟩ := bind_some hm
                          refine sCall hf rfl rfl rfl rfl (cap := []) rfl rfl en18 (laws_heldInt64S_ok F r95.2 A39 n40 c41 hn97 1 _ _ hc134 (hs.rd (i := 0) rfl)) ?_; clear hf
                          rintro _ w ⟨rfl, hs1⟩ a hf
                          have hs : St [] W w [.row A39 n40 c41 2 1 (ints r95.2)] := hs.ext hs1.below
                          clear hs1
                          refine sY hf hs rfl rfl rfl (Y_assign rfl rfl) ?_; clear hf; intro a hf
                          refine wpO_nil ?_
                          refine wpL_seq ?_
                          refine wpL_seq ?_
                          refine wpL_region ?_
                          refine sY hf hs rfl rfl rfl (Y_move rfl rfl) ?_; clear hf; intro a hf
                          refine sY hf hs rfl rfl rfl (Y_lss rfl rfl rfl) ?_; clear hf; intro a hf
                          refine wpO_nil ?_
                          refine wpL_cond hf rfl (fun hb135 => ?_) (fun hb135 => ?_)
                          · have hm := bif_t hm hb135
                            refine wpL_seq ?_
                            refine wpL_region ?_
                            refine sY hf hs rfl rfl rfl (Y_assign rfl rfl) ?_; clear hf; intro a hf
                            refine wpO_nil ?_
                            obtain rfl := Option.some.inj hm
                            refine wpL_ret (ret_tmp rfl hf rfl ?_)
                            exact ⟨_, rfl, rfl, hs.sel [] (by decide)⟩
                          · have hm := bif_f hm hb135
                            refine wpL_skip ?_
                            refine wpL_seq ?_
                            refine wpL_seq ?_
                            refine wpL_region ?_
                            refine sY hf hs rfl rfl rfl (Y_move rfl rfl) ?_; clear hf; intro a hf
                            refine sY hf hs rfl rfl rfl (Y_move rfl rfl) ?_; clear hf; intro a hf
                            refine sY hf hs rfl rfl rfl (Y_neq rfl rfl rfl) ?_; clear hf; intro a hf
                            refine wpO_nil ?_
                            refine wpL_cond hf rfl (fun hb136 => ?_) (fun hb136 => ?_)
                            · have hm := bif_t hm hb136
                              refine wpL_seq ?_
                              refine wpL_region ?_
                              refine sY hf hs rfl rfl rfl (Y_assign rfl rfl) ?_; clear hf; intro a hf
                              refine wpO_nil ?_
                              obtain rfl := Option.some.inj hm
                              refine wpL_ret (ret_tmp rfl hf rfl ?_)
                              exact ⟨_, rfl, rfl, hs.sel [] (by decide)⟩
                            · have hm := bif_f hm hb136
                              refine wpL_skip ?_
                              refine wpL_seq ?_
                              refine wpL_region ?_
                              refine sY hf hs rfl rfl rfl (Y_assign rfl rfl) ?_; clear hf; intro a hf
                              refine wpO_nil ?_
                              obtain rfl := Option.some.inj hm
                              refine wpL_ret (ret_tmp rfl hf rfl ?_)
                              exact ⟨_, rfl, rfl, hs.sel [] (by decide)⟩

end Go.Proofs.Ytebmlphobgaboaa
