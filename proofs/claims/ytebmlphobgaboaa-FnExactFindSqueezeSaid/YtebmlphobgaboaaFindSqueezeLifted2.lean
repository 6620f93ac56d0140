/- The functions do what their models say. -/
import Derived.Test.YtebmlphobgaboaaFindSqueezeLifted1
import Derived.Test.YtebmlphobgaboaaRows
namespace Go.Proofs.Ytebmlphobgaboaa
open Go.RowKit

set_option maxHeartbeats 2000000 in
set_option maxRecDepth 100000 in
theorem spec_HeaviestPath_ok (F : Nat) (p0 : List (List Int)) (A_p0_1 : Option Addr) (n_p0_1 c_p0_1 : Nat) (hn_p0_1 : n_p0_1 = p0.length) (p1 : Int) (p2 : Int) (r : List Int × Int) (W : World) (hm : spec_HeaviestPath F p0 p1 p2 = some r) (h_p0_1 : RdM W A_p0_1 p0) :
    Calls Try.prog 66 [.slice A_p0_1 n_p0_1 c_p0_1, .int .i64 p1, .int .i64 p2].toArray W fun e w' => ∃ v, e = .returned v ∧ ∃ A1690, ∃ n1691, ∃ c1692, v = .tuple #[.slice A1690 n1691 c1692, .int .i64 r.2] ∧ n1691 = r.1.length ∧ St [] W w' [.row A1690 n1691 c1692 2 1 (ints r.1)] := by
  subst hn_p0_1
  unfold spec_HeaviestPath at hm
  refine Calls.enter (N := 156) Try.func66 rfl rfl rfl (fun a hf => ?_)
  have hs := St.start W
  obtain ⟨w, hw_⟩ : ∃ w, w = W := ⟨W, rfl⟩
  clear hw_ w
  refine wpL_seq ?_
  refine wpL_region ?_
  refine sY hf hs rfl rfl rfl (Y_assign rfl rfl) ?_; clear hf; intro a hf
  refine sY hf hs rfl rfl rfl (Y_assign rfl rfl) ?_; clear hf; intro a hf
  refine wpO_nil ?_
  refine wpL_seq ?_
  refine wpL_block0 ?_
  refine wpL_seq ?_
  refine wpL_region ?_
  refine sY hf hs rfl rfl rfl (Y_move rfl rfl) ?_; clear hf; intro a hf
  obtain ⟨r1, hc2, hm⟩ := bind_some hm
  refine sCall hf rfl rfl rfl rfl (cap := []) rfl rfl en121 (spec_l02Square_ok F p0 A_p0_1 p0.length c_p0_1 rfl _ _ hc2 (h_p0_1.at hs)) ?_; clear hf
  rintro _ w ⟨rfl, hs1⟩ a hf
  have hs : St [] W w [] := hs.ext hs1.below
  clear hs1
  refine sY hf hs rfl rfl rfl (Y_not rfl rfl) ?_; clear hf; intro a hf
  refine sY hf hs rfl rfl rfl (Y_assign rfl rfl) ?_; clear hf; intro a hf
  refine wpO_nil ?_
  refine wpL_cond hf rfl (fun hb3 => ?_) (fun hb3 => ?_)
  · have hm := bif_t hm hb3
    refine wpL_seq ?_
    refine wpL_region ?_
    refine sY hf hs rfl rfl rfl (Y_assign rfl rfl) ?_; clear hf; intro a hf
    refine sY hf hs rfl rfl rfl (Y_assign rfl rfl) ?_; clear hf; intro a hf
    refine wpO_nil ?_
    have hs : St [] W _ [.row none 0 0 2 1 (ints ([] : List Int))] := hs.addNil 2 1
    obtain rfl := Option.some.inj hm
    refine wpL_ret (Qb_ret (ret_tmp2 rfl hf rfl rfl ?_))
    exact ⟨_, rfl, none, 0, 0, rfl, rfl, hs⟩
  · have hm := bif_f hm hb3
    refine wpL_seq ?_
    obtain ⟨r11, hj12, hm⟩ := bind_some hm
    refine wpL_cut (fun a w => ∃ b10 : Bool, b10 = r11 ∧ Fr a 156 [(0, .slice A_p0_1 p0.length c_p0_1), (1, .int .i64 p1), (2, .int .i64 p2), (21, .bool b10)] ∧ St [] W w []) ?_ ?_
    · refine wpL_region ?_
      refine sY hf hs rfl rfl rfl (Y_move rfl rfl) ?_; clear hf; intro a hf
      refine sY hf hs rfl rfl rfl (Y_move rfl rfl) ?_; clear hf; intro a hf
      obtain ⟨r13, hc14, hj12⟩ := bind_some hj12
      refine sCall hf rfl rfl rfl rfl (cap := []) rfl rfl en122 (spec_l03Node_ok F p0 A_p0_1 p0.length c_p0_1 rfl p1 _ _ hc14 (h_p0_1.at hs)) ?_; clear hf
      rintro _ w ⟨rfl, hs1⟩ a hf
      have hs : St [] W w [] := hs.ext hs1.below
      clear hs1
      refine sY hf hs rfl rfl rfl (Y_not rfl rfl) ?_; clear hf; intro a hf
      refine sY hf hs rfl rfl rfl (Y_move rfl rfl) ?_; clear hf; intro a hf
      refine bsplit (!r13) (fun hb15 => ?_) (fun hb15 => ?_)
      · have hj12 := bif_t hj12 hb15
        refine sNo hf rfl rfl rfl (congrArg (fun b => some (Value.bool b)) hb15) rfl rfl rfl ?_; clear hf; intro a hf
        refine sNo hf rfl rfl rfl (congrArg (fun b => some (Value.bool b)) hb15) rfl rfl rfl ?_; clear hf; intro a hf
        refine sNo hf rfl rfl rfl (congrArg (fun b => some (Value.bool b)) hb15) rfl rfl rfl ?_; clear hf; intro a hf
        refine sNo hf rfl rfl rfl (congrArg (fun b => some (Value.bool b)) hb15) rfl rfl rfl ?_; clear hf; intro a hf
        refine sY hf hs rfl rfl rfl (Y_pickT rfl (congrArg (fun b => some (Value.bool b)) hb15) rfl) ?_; clear hf; intro a hf
        refine sY hf hs rfl rfl rfl (Y_assign rfl rfl) ?_; clear hf; intro a hf
        refine wpO_nil ?_
        refine wpL_nil (then_normal ?_)
        exact ⟨true, Option.some.inj hj12, (FrD.pick (FrD.pick (FrD.pick (FrD.pick hf.none hf rfl) hf rfl) hf rfl) hf rfl), hs⟩
      · have hj12 := bif_f hj12 hb15
        refine sYg hf hs rfl rfl rfl (congrArg (fun b => some (Value.bool b)) hb15) rfl rfl rfl (Y_move rfl rfl) ?_; clear hf; intro a hf
        refine sYg hf hs rfl rfl rfl (congrArg (fun b => some (Value.bool b)) hb15) rfl rfl rfl (Y_move rfl rfl) ?_; clear hf; intro a hf
        obtain ⟨r16, hc17, hj12⟩ := bind_some hj12
        refine sCallg hf rfl rfl rfl (congrArg (fun b => some (Value.bool b)) hb15) rfl rfl rfl rfl (cap := []) rfl rfl en122 (spec_l03Node_ok F p0 A_p0_1 p0.length c_p0_1 rfl p2 _ _ hc17 (h_p0_1.at hs)) ?_; clear hf
        rintro _ w ⟨rfl, hs1⟩ a hf
        have hs : St [] W w [] := hs.ext hs1.below
        clear hs1
        refine sYg hf hs rfl rfl rfl (congrArg (fun b => some (Value.bool b)) hb15) rfl rfl rfl (Y_not rfl rfl) ?_; clear hf; intro a hf
        refine sY hf hs rfl rfl rfl (Y_pickF rfl (congrArg (fun b => some (Value.bool b)) hb15) rfl) ?_; clear hf; intro a hf
        refine sY hf hs rfl rfl rfl (Y_assign rfl rfl) ?_; clear hf; intro a hf
        refine wpO_nil ?_
        refine wpL_nil (then_normal ?_)
        exact ⟨(!r16), Option.some.inj hj12, (FrD.pick (FrD.pick (FrD.pick (FrD.pick hf.none hf rfl) hf rfl) hf rfl) hf rfl), hs⟩
    · rintro a w ⟨b10, hr_, hf, hs⟩
      subst hr_
      try dsimp only at hm
      refine wpL_cond hf rfl (fun hb18 => ?_) (fun hb18 => ?_)
      · have hm := bif_t hm hb18
        refine wpL_seq ?_
        refine wpL_region ?_
        refine sY hf hs rfl rfl rfl (Y_assign rfl rfl) ?_; clear hf; intro a hf
        refine sY hf hs rfl rfl rfl (Y_assign rfl rfl) ?_; clear hf; intro a hf
        refine wpO_nil ?_
        have hs : St [] W _ [.row none 0 0 2 1 (ints ([] : List Int))] := hs.addNil 2 1
        obtain rfl := Option.some.inj hm
        refine wpL_ret (Qb_ret (ret_tmp2 rfl hf rfl rfl ?_))
        exact ⟨_, rfl, none, 0, 0, rfl, rfl, hs⟩
      · have hm := bif_f hm hb18
        refine wpL_skip ?_
        refine wpL_nil (Qb_normal ?_)
        refine wpL_seq ?_
        refine wpL_region ?_
        refine sY hf hs rfl rfl rfl (Y_move rfl rfl) ?_; clear hf; intro a hf
        obtain ⟨r20, hc21, hm⟩ := bind_some hm
        refine sCall hf rfl rfl rfl rfl (cap := []) rfl rfl en64 (spec_l03Star_ok F p0 A_p0_1 p0.length c_p0_1 rfl _ _ hc21 (h_p0_1.at hs)) ?_; clear hf
        rintro _ w ⟨A22, n23, c24, vs26, rfl, hn25, hs1⟩ a hf
        have hs : St [] W w [.mat A22 n23 c24 23 2 vs26 r20.1] := hs.join hs1
        clear hs1
        refine sY hf hs rfl rfl rfl (Y_move rfl rfl) ?_; clear hf; intro a hf
        refine sY hf hs rfl rfl rfl (Y_extract rfl rfl rfl) ?_; clear hf; intro a hf
        refine sY hf hs rfl rfl rfl (Y_extract rfl rfl rfl) ?_; clear hf; intro a hf
        refine sY hf hs rfl rfl rfl (Y_assign rfl rfl) ?_; clear hf; intro a hf
        refine sY hf hs rfl rfl rfl (Y_assign rfl rfl) ?_; clear hf; intro a hf
        refine wpO_nil ?_
        refine wpL_seq ?_
        refine wpL_seq ?_
        refine wpL_region ?_
        refine sY hf hs rfl rfl rfl (Y_move rfl rfl) ?_; clear hf; intro a hf
        refine sY hf hs rfl rfl rfl (Y_not rfl rfl) ?_; clear hf; intro a hf
        refine wpO_nil ?_
        refine wpL_cond hf rfl (fun hb27 => ?_) (fun hb27 => ?_)
        · have hm := bif_t hm hb27
          refine wpL_seq ?_
          refine wpL_region ?_
          refine sY hf hs rfl rfl rfl (Y_assign rfl rfl) ?_; clear hf; intro a hf
          refine sY hf hs rfl rfl rfl (Y_assign rfl rfl) ?_; clear hf; intro a hf
          refine wpO_nil ?_
          have hs : St [] W _ [.mat A22 n23 c24 23 2 vs26 r20.1, .row none 0 0 2 1 (ints ([] : List Int))] := hs.addNil 2 1
          obtain rfl := Option.some.inj hm
          refine wpL_ret (ret_tmp2 rfl hf rfl rfl ?_)
          exact ⟨_, rfl, none, 0, 0, rfl, rfl, hs.sel [1] (by decide)⟩
        · have hm := bif_f hm hb27
          refine wpL_skip ?_
          refine wpL_seq ?_
          refine wpL_seq ?_
          refine wpL_region ?_
          refine sY hf hs rfl rfl rfl (Y_move rfl rfl) ?_; clear hf; intro a hf
          refine sY hf hs rfl rfl rfl (Y_move rfl rfl) ?_; clear hf; intro a hf
          obtain ⟨q29, hi30, hm⟩ := bind_some hm
          obtain ⟨hi30a, hi30b, hi30q⟩ := idx_some hi30
          obtain ⟨A31, c32, hv33⟩ := hs.matRow (i := 0) rfl hi30q
          refine sY hf hs rfl rfl rfl (Y_index rfl rfl rfl el59 ti23 (Rd.isAt (hs.rdV (i := 0) rfl) hv33) hi30a (ltn hn25 hi30b)) ?_; clear hf; intro a hf
          refine sY hf hs rfl rfl rfl (Y_load_rd rfl rfl (fun w hs => hs.rdV (i := 0) rfl) (at1 hv33) ag23) ?_; clear hf; intro a hf
          refine sY hf hs rfl rfl rfl (Y_move rfl rfl) ?_; clear hf; intro a hf
          obtain ⟨q34, hi35, hm⟩ := bind_some hm
          obtain ⟨hi35a, hi35b, hi35q⟩ := idx_some hi35
          refine sY hf hs rfl rfl rfl (Y_index rfl rfl rfl el23 ti2 (Rd.isAt (hs.rdRow (i := 0) rfl ⟨hi30q, hv33⟩) (at1 (ints_at hi35q))) hi35a hi35b) ?_; clear hf; intro a hf
          refine sY hf hs rfl rfl rfl (Y_load_rd rfl rfl (fun w hs => hs.rdRow (i := 0) rfl ⟨hi30q, hv33⟩) (at1 (ints_at hi35q)) ag2) ?_; clear hf; intro a hf
          refine sY hf hs rfl rfl rfl (Y_eql rfl rfl rfl) ?_; clear hf; intro a hf
          refine wpO_nil ?_
          refine wpL_cond hf rfl (fun hb36 => ?_) (fun hb36 => ?_)
          · have hm := bif_t hm hb36
            refine wpL_seq ?_
            refine wpL_region ?_
            refine sY hf hs rfl rfl rfl (Y_assign rfl rfl) ?_; clear hf; intro a hf
            refine sY hf hs rfl rfl rfl (Y_assign rfl rfl) ?_; clear hf; intro a hf
            refine wpO_nil ?_
            have hs : St [] W _ [.mat A22 n23 c24 23 2 vs26 r20.1, .row none 0 0 2 1 (ints ([] : List Int))] := hs.addNil 2 1
            obtain rfl := Option.some.inj hm
            refine wpL_ret (ret_tmp2 rfl hf rfl rfl ?_)
            exact ⟨_, rfl, none, 0, 0, rfl, rfl, hs.sel [1] (by decide)⟩
          · have hm := bif_f hm hb36
            refine wpL_skip ?_
            refine wpL_seq ?_
            refine wpL_region ?_
            refine sY hf hs rfl rfl rfl (Y_move rfl rfl) ?_; clear hf; intro a hf
            refine sY hf hs rfl rfl rfl (Y_lenH rfl rfl el59 rfl) ?_; clear hf; intro a hf
            obtain ⟨r38, hc39, hm⟩ := bind_some hm
            refine sCall hf rfl rfl rfl rfl (cap := []) rfl rfl en117 (spec_l02Unit_ok F (p0.length : Int) _ _ hc39) ?_; clear hf
            rintro _ w ⟨A40, n41, c42, vs44, rfl, hn43, hs1⟩ a hf
            have hs : St [] W w [.mat A22 n23 c24 23 2 vs26 r20.1, .mat A40 n41 c42 23 2 vs44 r38] := hs.join hs1
            clear hs1
            refine sOneC (j := 1) hf hs rfl rfl rfl rfl rfl rfl hn43 el22 ti59 ?_; clear hf hs; intro a w A45 hs hf
            have hs : St [] W w [.mat A22 n23 c24 23 2 vs26 r20.1, .cub A45 1 1 59 23 2 ([(⟨A40, c42, vs44, r38⟩ : Mt)]) ([r38])] := hs
            refine sY hf hs rfl rfl rfl (Y_assign rfl rfl) ?_; clear hf; intro a hf
            refine wpO_nil ?_
            refine wpL_seq ?_
            obtain ⟨r191, hl192, hm⟩ := bind_some hm
            refine wpL_block (fun a w => ∃ ms185 : List (List (List Int)), ∃ A186, ∃ n187, ∃ c188, ∃ vs190, ms185 = r191 ∧ n187 = ms185.length ∧ Fr a 156 [(0, .slice A_p0_1 p0.length c_p0_1), (1, .int .i64 p1), (2, .int .i64 p2), (8, .slice A22 n23 c24), (10, .slice A186 n187 c188)] ∧ St [] W w [.mat A22 n23 c24 23 2 vs26 r20.1, .cub A186 n187 c188 59 23 2 vs190 ms185]) ?_ ?_
            · refine wpL_loop (fun n a w => ∃ ms137 : List (List (List Int)), ∃ A138, ∃ n139, ∃ c140, ∃ vs142, spec_HeaviestPath_L1 F p0 p1 p2 r20 n ms137 = some r191 ∧ n139 = ms137.length ∧ Fr a 156 [(0, .slice A_p0_1 p0.length c_p0_1), (1, .int .i64 p1), (2, .int .i64 p2), (8, .slice A22 n23 c24), (10, .slice A138 n139 c140)] ∧ St [] W w [.mat A22 n23 c24 23 2 vs26 r20.1, .cub A138 n139 c140 59 23 2 vs142 ms137]) F ?_ ?_ ?_
              · exact ⟨[r38], A45, 1, 1, [(⟨A40, c42, vs44, r38⟩ : Mt)], hl192, rfl, (FrD.pick (FrD.pick (FrD.pick (FrD.pick (FrD.pick hf.none hf rfl) hf rfl) hf rfl) hf rfl) hf rfl), hs⟩
              · rintro a w ⟨ms137, A138, n139, c140, vs142, h0_, -, -, -⟩; simp [spec_HeaviestPath_L1] at h0_
              · rintro n194 a w ⟨ms137, A138, n139, c140, vs142, hm193, hn141, hf, hs⟩
                rw [spec_HeaviestPath_L1] at hm193
                refine wpL_seq ?_
                refine wpL_seq ?_
                refine wpL_draw (by kernel_rfl) (by kernel_rfl) hs ?_
                refine qY hf rfl rfl rfl (Y_move rfl rfl) ?_; clear hf; intro a hf
                refine qY hf rfl rfl rfl (Y_move rfl rfl) ?_; clear hf; intro a hf
                refine qY hf rfl rfl rfl (Y_lenH rfl rfl el22 hn141) ?_; clear hf; intro a hf
                refine qY hf rfl rfl rfl (Y_sub rfl rfl rfl) ?_; clear hf; intro a hf
                obtain ⟨q195, hi196, hm193⟩ := bind_some hm193
                obtain ⟨hi196a, hi196b, hi196q⟩ := idx_some hi196
                obtain ⟨A197, c198, us199, ht200⟩ := hs.cubAt (i := 1) rfl hi196q
                refine qY hf rfl rfl rfl (Y_index rfl rfl rfl el22 ti59 (Rd.isAt (hs.rdVC (i := 1) rfl) (mt_at ht200)) hi196a (ltn hn141 hi196b)) ?_; clear hf; intro a hf
                refine qY hf rfl rfl rfl (Y_load_rd rfl rfl (fun w hs => hs.rdVC (i := 1) rfl) (at1 (mt_at ht200)) ag59) ?_; clear hf; intro a hf
                refine qY hf rfl rfl rfl (Y_move rfl rfl) ?_; clear hf; intro a hf
                obtain ⟨q201, hi202, hm193⟩ := bind_some hm193
                obtain ⟨hi202a, hi202b, hi202q⟩ := idx_some hi202
                obtain ⟨A203, c204, hv205⟩ := hs.cubRow (i := 1) rfl ht200 hi202q
                refine qY hf rfl rfl rfl (Y_index rfl rfl rfl el59 ti23 (Rd.isAt (hs.rdVM (i := 1) rfl ht200) hv205) hi202a hi202b) ?_; clear hf; intro a hf
                refine qY hf rfl rfl rfl (Y_load_rd rfl rfl (fun w hs => hs.rdVM (i := 1) rfl ht200) (at1 hv205) ag23) ?_; clear hf; intro a hf
                refine qY hf rfl rfl rfl (Y_move rfl rfl) ?_; clear hf; intro a hf
                obtain ⟨q206, hi207, hm193⟩ := bind_some hm193
                obtain ⟨hi207a, hi207b, hi207q⟩ := idx_some hi207
                refine qY hf rfl rfl rfl (Y_index rfl rfl rfl el23 ti2 (Rd.isAt (hs.rdCRow (i := 1) rfl ht200 hi202q hv205) (at1 (ints_at hi207q))) hi207a hi207b) ?_; clear hf; intro a hf
                refine qY hf rfl rfl rfl (Y_load_rd rfl rfl (fun w hs => hs.rdCRow (i := 1) rfl ht200 hi202q hv205) (at1 (ints_at hi207q)) ag2) ?_; clear hf; intro a hf
                refine qY hf rfl rfl rfl (Y_move rfl rfl) ?_; clear hf; intro a hf
                refine qY hf rfl rfl rfl (Y_move rfl rfl) ?_; clear hf; intro a hf
                obtain ⟨q208, hi209, hm193⟩ := bind_some hm193
                obtain ⟨hi209a, hi209b, hi209q⟩ := idx_some hi209
                obtain ⟨A210, c211, hv212⟩ := hs.matRow (i := 0) rfl hi209q
                refine qY hf rfl rfl rfl (Y_index rfl rfl rfl el59 ti23 (Rd.isAt (hs.rdV (i := 0) rfl) hv212) hi209a (ltn hn25 hi209b)) ?_; clear hf; intro a hf
                refine qY hf rfl rfl rfl (Y_load_rd rfl rfl (fun w hs => hs.rdV (i := 0) rfl) (at1 hv212) ag23) ?_; clear hf; intro a hf
                refine qY hf rfl rfl rfl (Y_move rfl rfl) ?_; clear hf; intro a hf
                obtain ⟨q213, hi214, hm193⟩ := bind_some hm193
                obtain ⟨hi214a, hi214b, hi214q⟩ := idx_some hi214
                refine qY hf rfl rfl rfl (Y_index rfl rfl rfl el23 ti2 (Rd.isAt (hs.rdRow (i := 0) rfl ⟨hi209q, hv212⟩) (at1 (ints_at hi214q))) hi214a hi214b) ?_; clear hf; intro a hf
                refine qY hf rfl rfl rfl (Y_load_rd rfl rfl (fun w hs => hs.rdRow (i := 0) rfl ⟨hi209q, hv212⟩) (at1 (ints_at hi214q)) ag2) ?_; clear hf; intro a hf
                refine qY hf rfl rfl rfl (Y_neq rfl rfl rfl) ?_; clear hf; intro a hf
                refine qNil ?_; clear hs; intro w hs
                refine wpL_cond hf rfl (fun hb215 => ?_) (fun hb215 => ?_)
                · have hm193 := bif_t hm193 hb215
                  refine wpL_skip ?_
                  refine wpL_block0 ?_
                  refine wpL_region ?_
                  refine sY hf hs rfl rfl rfl (Y_move rfl rfl) ?_; clear hf; intro a hf
                  refine sY hf hs rfl rfl rfl (Y_move rfl rfl) ?_; clear hf; intro a hf
                  refine sY hf hs rfl rfl rfl (Y_move rfl rfl) ?_; clear hf; intro a hf
                  refine sY hf hs rfl rfl rfl (Y_lenH rfl rfl el22 hn141) ?_; clear hf; intro a hf
                  refine sY hf hs rfl rfl rfl (Y_sub rfl rfl rfl) ?_; clear hf; intro a hf
                  obtain ⟨q216, hi217, hm193⟩ := bind_some hm193
                  obtain ⟨hi217a, hi217b, hi217q⟩ := idx_some hi217
                  obtain ⟨A218, c219, us220, ht221⟩ := hs.cubAt (i := 1) rfl hi217q
                  refine sY hf hs rfl rfl rfl (Y_index rfl rfl rfl el22 ti59 (Rd.isAt (hs.rdVC (i := 1) rfl) (mt_at ht221)) hi217a (ltn hn141 hi217b)) ?_; clear hf; intro a hf
                  refine sY hf hs rfl rfl rfl (Y_load_rd rfl rfl (fun w hs => hs.rdVC (i := 1) rfl) (at1 (mt_at ht221)) ag59) ?_; clear hf; intro a hf
                  refine sY hf hs rfl rfl rfl (Y_move rfl rfl) ?_; clear hf; intro a hf
                  obtain ⟨r222, hc223, hm193⟩ := bind_some hm193
                  refine sCall hf rfl rfl rfl rfl (cap := []) rfl rfl en119 (spec_l02Multiply_ok F q216 A218 q216.length c219 rfl p0 A_p0_1 p0.length c_p0_1 rfl _ _ hc223 (hs.rdMC (i := 1) rfl ht221) (h_p0_1.at hs)) ?_; clear hf
                  rintro _ w ⟨A224, n225, c226, vs228, rfl, hn227, hs1⟩ a hf
                  have hs : St [] W w [.mat A22 n23 c24 23 2 vs26 r20.1, .cub A138 n139 c140 59 23 2 vs142 ms137, .mat A224 n225 c226 23 2 vs228 r222] := hs.join hs1
                  clear hs1
                  refine sOneC (j := 2) hf hs rfl rfl rfl rfl rfl rfl hn227 el22 ti59 ?_; clear hf hs; intro a w A229 hs hf
                  have hs : St [] W w [.mat A22 n23 c24 23 2 vs26 r20.1, .cub A138 n139 c140 59 23 2 vs142 ms137, .cub A229 1 1 59 23 2 ([(⟨A224, c226, vs228, r222⟩ : Mt)]) ([r222])] := hs
                  obtain ⟨ms233, ha234, hm193⟩ := bind_some hm193
                  refine sAppendC (i := 1) (j := 2) hf hs rfl rfl rfl rfl rfl rfl hn141 rfl (by decide) rfl rfl (by decide) ha234 el22 ti59 rfl ?_; clear hf hs; intro a w A231 c232 hs hf
                  have hs : St [] W w [.mat A22 n23 c24 23 2 vs26 r20.1, .cub A231 ms233.length c232 59 23 2 (vs142 ++ ([(⟨A224, c226, vs228, r222⟩ : Mt)])) ms233] := hs
                  refine sY hf hs rfl rfl rfl (Y_assign rfl rfl) ?_; clear hf; intro a hf
                  refine wpO_nil ?_
                  refine wpL_nil (Qb_normal ?_)
                  refine wpL_nil (Ql_normal ?_)
                  exact ⟨ms233, A231, ms233.length, c232, (vs142 ++ ([(⟨A224, c226, vs228, r222⟩ : Mt)])), hm193, rfl, (FrD.pick (FrD.pick (FrD.pick (FrD.pick (FrD.pick hf.none hf rfl) hf rfl) hf rfl) hf rfl) hf rfl), hs⟩
                · have hm193 := bif_f hm193 hb215
                  refine wpL_exit (Ql_exit (Qb_exit ?_))
                  exact ⟨ms137, A138, n139, c140, vs142, Option.some.inj hm193, hn141, (FrD.pick (FrD.pick (FrD.pick (FrD.pick (FrD.pick hf.none hf rfl) hf rfl) hf rfl) hf rfl) hf rfl), hs⟩
            · rintro a w ⟨ms185, A186, n187, c188, vs190, hr_, hn189, hf, hs⟩
              subst hr_
              try dsimp only at hm
              refine wpL_seq ?_
              refine wpL_drawM [.mat A22 n23 c24 23 2 vs26 r20.1, .cub A186 n187 c188 59 23 2 vs190 ms185] [] (by kernel_rfl) hs ?_; clear hs; intro w hs
              have hs0 : St [] W w [.mat A22 n23 c24 23 2 vs26 r20.1, .cub A186 n187 c188 59 23 2 vs190 ms185] := hs
              refine mYp (i := 0) rfl (by kernel_rfl) (by kernel_rfl) hf rfl rfl rfl (fun _ => Y_move rfl rfl) ?_; clear hf; intro a hf
              refine mYp (i := 2) rfl (by kernel_rfl) (by kernel_rfl) hf rfl rfl rfl (fun _ => Y_move rfl rfl) ?_; clear hf; intro a hf
              refine mYp (i := 3) rfl (by kernel_rfl) (by kernel_rfl) hf rfl rfl rfl (fun _ => Y_move rfl rfl) ?_; clear hf; intro a hf
              obtain ⟨q246, hi247, hm⟩ := bind_some hm
              obtain ⟨hi247a, hi247b, hi247q⟩ := idx_some hi247
              obtain ⟨A248, c249, hv250⟩ := hs.matRow (i := 0) rfl hi247q
              refine mYp (i := 4) rfl (by kernel_rfl) (by kernel_rfl) hf rfl rfl rfl (fun _ => Y_index rfl rfl rfl el59 ti23 (Rd.isAt (hs.rdV (i := 0) rfl) hv250) hi247a (ltn hn25 hi247b)) ?_; clear hf; intro a hf
              refine mY (i := 5) [] rfl (by kernel_rfl) (by kernel_rfl) hf hs0 rfl rfl rfl (Y_load_rd rfl rfl (fun w hs => hs.rdV (i := 0) rfl) (at1 hv250) ag23) ?_; clear hf; intro a hf
              refine mYp (i := 6) rfl (by kernel_rfl) (by kernel_rfl) hf rfl rfl rfl (fun _ => Y_move rfl rfl) ?_; clear hf; intro a hf
              obtain ⟨q251, hi252, hm⟩ := bind_some hm
              obtain ⟨hi252a, hi252b, hi252q⟩ := idx_some hi252
              refine mYp (i := 7) rfl (by kernel_rfl) (by kernel_rfl) hf rfl rfl rfl (fun _ => Y_index rfl rfl rfl el23 ti2 (Rd.isAt (hs.rdRow (i := 0) rfl ⟨hi247q, hv250⟩) (at1 (ints_at hi252q))) hi252a hi252b) ?_; clear hf; intro a hf
              refine mY (i := 8) [] rfl (by kernel_rfl) (by kernel_rfl) hf hs0 rfl rfl rfl (Y_load_rd rfl rfl (fun w hs => hs.rdRow (i := 0) rfl ⟨hi247q, hv250⟩) (at1 (ints_at hi252q)) ag2) ?_; clear hf; intro a hf
              refine mRun (i := 1) rfl (by kernel_rfl) ?_
              refine sBuildSlice (parts := [(0, .tmp 82)]) (vs := [.int .i64 p1]) (cells := [.int .i64 p1]) hf hs rfl rfl rfl rfl rfl el23 ti2 rfl rfl rfl rfl ?_; clear hf hs; intro a w A253 hs hA254 hf
              have hs : St [] W w [.mat A22 n23 c24 23 2 vs26 r20.1, .cub A186 n187 c188 59 23 2 vs190 ms185, .row A253 1 1 2 1 (ints ([p1]))] := hs
              have hs0 : St [] W w [.mat A22 n23 c24 23 2 vs26 r20.1, .cub A186 n187 c188 59 23 2 vs190 ms185] := hs.sel [0, 1] (by decide)
              refine wpO_nil ⟨Or.inr (fun _ => hs0), ?_⟩
              refine mYp (i := 9) rfl (by kernel_rfl) (by kernel_rfl) hf rfl rfl rfl (fun _ => Y_assign rfl rfl) ?_; clear hf; intro a hf
              refine mYp (i := 10) rfl (by kernel_rfl) (by kernel_rfl) hf rfl rfl rfl (fun _ => Y_assign rfl rfl) ?_; clear hf; intro a hf
              refine mDone (by kernel_rfl) ?_
              clear hs0
              refine wpL_seq ?_
              refine wpL_seq ?_
              refine wpL_region ?_
              refine sY hf hs rfl rfl rfl (Y_move rfl rfl) ?_; clear hf; intro a hf
              refine sY hf hs rfl rfl rfl (Y_lenH rfl rfl el22 hn189) ?_; clear hf; intro a hf
              refine sY hf hs rfl rfl rfl (Y_sub rfl rfl rfl) ?_; clear hf; intro a hf
              refine sY hf hs rfl rfl rfl (Y_assign rfl rfl) ?_; clear hf; intro a hf
              refine wpO_nil ?_
              obtain ⟨r1333, hl1334, hm⟩ := bind_some hm
              refine wpL_block (fun a w => ∃ xs1328 : List Int, ∃ A1329, ∃ n1330, ∃ c1331, xs1328 = r1333 ∧ n1330 = xs1328.length ∧ Fr a 156 [(11, .slice A1329 n1330 c1331)] ∧ St [] W w [.row A1329 n1330 c1331 2 1 (ints xs1328)]) ?_ ?_
              · refine wpL_loop (fun n a w => ∃ xs968 : List Int, ∃ x973 : Int, ∃ x974 : Int, ∃ A969, ∃ n970, ∃ c971, spec_HeaviestPath_L5 F p0 p2 ms185 n xs968 x973 x974 = some r1333 ∧ n970 = xs968.length ∧ Fr a 156 [(0, .slice A_p0_1 p0.length c_p0_1), (2, .int .i64 p2), (10, .slice A186 n187 c188), (11, .slice A969 n970 c971), (12, .int .i64 x973), (13, .int .i64 x974)] ∧ St [] W w [.cub A186 n187 c188 59 23 2 vs190 ms185, .row A969 n970 c971 2 1 (ints xs968)]) F ?_ ?_ ?_
                · exact ⟨[p1], q251, (IntKind.i64.wrap ((ms185.length : Int) - 2)), A253, 1, 1, hl1334, rfl, (FrD.pick (FrD.pick (FrD.pick (FrD.pick (FrD.pick (FrD.pick hf.none hf rfl) hf rfl) hf rfl) hf rfl) hf rfl) hf rfl), hs.sel [1, 2] (by decide)⟩
                · rintro a w ⟨xs968, x973, x974, A969, n970, c971, h0_, -, -, -⟩; simp [spec_HeaviestPath_L5] at h0_
                · rintro n1336 a w ⟨xs968, x973, x974, A969, n970, c971, hm1335, hn972, hf, hs⟩
                  rw [spec_HeaviestPath_L5] at hm1335
                  refine wpL_seq ?_
                  refine wpL_seq ?_
                  refine wpL_region ?_
                  refine sY hf hs rfl rfl rfl (Y_move rfl rfl) ?_; clear hf; intro a hf
                  refine sY hf hs rfl rfl rfl (Y_geq rfl rfl rfl) ?_; clear hf; intro a hf
                  refine wpO_nil ?_
                  refine wpL_cond hf rfl (fun hb1337 => ?_) (fun hb1337 => ?_)
                  · have hm1335 := bif_t hm1335 hb1337
                    refine wpL_skip ?_
                    refine wpL_seq ?_
                    refine wpL_block0 ?_
                    refine wpL_seq ?_
                    refine wpL_region ?_
                    refine sY hf hs rfl rfl rfl (Y_move rfl rfl) ?_; clear hf; intro a hf
                    refine sY hf hs rfl rfl rfl (Y_move rfl rfl) ?_; clear hf; intro a hf
                    refine sY hf hs rfl rfl rfl (Y_lenH rfl rfl el23 hn972) ?_; clear hf; intro a hf
                    refine sY hf hs rfl rfl rfl (Y_sub rfl rfl rfl) ?_; clear hf; intro a hf
                    obtain ⟨q1338, hi1339, hm1335⟩ := bind_some hm1335
                    obtain ⟨hi1339a, hi1339b, hi1339q⟩ := idx_some hi1339
                    refine sY hf hs rfl rfl rfl (Y_index rfl rfl rfl el23 ti2 (Rd.isAt (hs.rd (i := 1) rfl) (at1 (ints_at hi1339q))) hi1339a (ltn hn972 hi1339b)) ?_; clear hf; intro a hf
                    refine sY hf hs rfl rfl rfl (Y_load_rd rfl rfl (fun w hs => hs.rd (i := 1) rfl) (at1 (ints_at hi1339q)) ag2) ?_; clear hf; intro a hf
                    refine sY hf hs rfl rfl rfl (Y_assign rfl rfl) ?_; clear hf; intro a hf
                    refine sY hf hs rfl rfl rfl (Y_assign rfl rfl) ?_; clear hf; intro a hf
                    refine wpO_nil ?_
                    refine wpL_seq ?_
                    refine wpL_seq ?_
                    refine wpL_region ?_
                    refine sY hf hs rfl rfl rfl (Y_move rfl rfl) ?_; clear hf; intro a hf
                    refine sY hf hs rfl rfl rfl (Y_lenH rfl rfl el59 rfl) ?_; clear hf; intro a hf
                    refine sY hf hs rfl rfl rfl (Y_sub rfl rfl rfl) ?_; clear hf; intro a hf
                    refine sY hf hs rfl rfl rfl (Y_assign rfl rfl) ?_; clear hf; intro a hf
                    refine wpO_nil ?_
                    obtain ⟨r1588, hl1589, hm1335⟩ := bind_some hm1335
                    refine wpL_block (fun a w => ∃ x1587 : Int, x1587 = r1588 ∧ Fr a 156 [(0, .slice A_p0_1 p0.length c_p0_1), (2, .int .i64 p2), (10, .slice A186 n187 c188), (11, .slice A969 n970 c971), (12, .int .i64 x973), (13, .int .i64 x974), (14, .int .i64 q1338), (15, .int .i64 x1587)] ∧ St [] W w [.cub A186 n187 c188 59 23 2 vs190 ms185, .row A969 n970 c971 2 1 (ints xs968)]) ?_ ?_
                    · refine wpL_loop (fun n a w => ∃ x1504 : Int, ∃ x1505 : Int, spec_HeaviestPath_L6 F p0 p2 ms185 x973 x974 q1338 n x1504 x1505 = some r1588 ∧ Fr a 156 [(0, .slice A_p0_1 p0.length c_p0_1), (2, .int .i64 p2), (10, .slice A186 n187 c188), (11, .slice A969 n970 c971), (12, .int .i64 x973), (13, .int .i64 x974), (14, .int .i64 q1338), (15, .int .i64 x1504), (16, .int .i64 x1505)] ∧ St [] W w [.cub A186 n187 c188 59 23 2 vs190 ms185, .row A969 n970 c971 2 1 (ints xs968)]) F ?_ ?_ ?_
                      · exact ⟨(-1), (IntKind.i64.wrap ((p0.length : Int) - 1)), hl1589, (FrD.pick (FrD.pick (FrD.pick (FrD.pick (FrD.pick (FrD.pick (FrD.pick (FrD.pick (FrD.pick hf.none hf rfl) hf rfl) hf rfl) hf rfl) hf rfl) hf rfl) hf rfl) hf rfl) hf rfl), hs⟩
                      · rintro a w ⟨x1504, x1505, h0_, -, -⟩; simp [spec_HeaviestPath_L6] at h0_
                      · rintro n1591 a w ⟨x1504, x1505, hm1590, hf, hs⟩
                        rw [spec_HeaviestPath_L6] at hm1590
                        refine wpL_seq ?_
                        refine wpL_seq ?_
                        refine wpL_region ?_
                        refine sY hf hs rfl rfl rfl (Y_move rfl rfl) ?_; clear hf; intro a hf
                        refine sY hf hs rfl rfl rfl (Y_geq rfl rfl rfl) ?_; clear hf; intro a hf
                        refine wpO_nil ?_
                        refine wpL_cond hf rfl (fun hb1592 => ?_) (fun hb1592 => ?_)
                        · have hm1590 := bif_t hm1590 hb1592
                          refine wpL_skip ?_
                          refine wpL_seq ?_
                          refine wpL_block0 ?_
                          refine wpL_seq ?_
                          obtain ⟨r1632, hj1633, hm1590⟩ := bind_some hm1590
                          refine wpL_cut (fun a w => ∃ b1631 : Bool, b1631 = r1632 ∧ Fr a 156 [(0, .slice A_p0_1 p0.length c_p0_1), (2, .int .i64 p2), (10, .slice A186 n187 c188), (11, .slice A969 n970 c971), (12, .int .i64 x973), (13, .int .i64 x974), (14, .int .i64 q1338), (15, .int .i64 x1504), (16, .int .i64 x1505), (140, .bool b1631)] ∧ St [] W w [.cub A186 n187 c188 59 23 2 vs190 ms185, .row A969 n970 c971 2 1 (ints xs968)]) ?_ ?_
                          · refine wpL_draw (by kernel_rfl) (by kernel_rfl) hs ?_
                            refine qY hf rfl rfl rfl (Y_move rfl rfl) ?_; clear hf; intro a hf
                            refine qY hf rfl rfl rfl (Y_move rfl rfl) ?_; clear hf; intro a hf
                            obtain ⟨q1634, hi1635, hj1633⟩ := bind_some hj1633
                            obtain ⟨hi1635a, hi1635b, hi1635q⟩ := idx_some hi1635
                            obtain ⟨vs1636, hv1637, hr1638⟩ := id h_p0_1
                            obtain ⟨A1639, c1640, hv1641, hR1642⟩ := hr1638 _ _ hi1635q
                            refine qY hf rfl rfl rfl (Y_index rfl rfl rfl el59 ti23 (Rd.isAt hv1637 hv1641) hi1635a hi1635b) ?_; clear hf; intro a hf
                            refine qY hf rfl rfl rfl (Y_load_rd rfl rfl (fun w hs => hv1637.at hs) (at1 hv1641) ag23) ?_; clear hf; intro a hf
                            refine qY hf rfl rfl rfl (Y_move rfl rfl) ?_; clear hf; intro a hf
                            obtain ⟨q1643, hi1644, hj1633⟩ := bind_some hj1633
                            obtain ⟨hi1644a, hi1644b, hi1644q⟩ := idx_some hi1644
                            refine qY hf rfl rfl rfl (Y_index rfl rfl rfl el23 ti2 (Rd.isAt (hR1642.at hs) (at1 (ints_at hi1644q))) hi1644a hi1644b) ?_; clear hf; intro a hf
                            refine qY hf rfl rfl rfl (Y_load_rd rfl rfl (fun w hs => hR1642.at hs) (at1 (ints_at hi1644q)) ag2) ?_; clear hf; intro a hf
                            refine qY hf rfl rfl rfl (Y_neq rfl rfl rfl) ?_; clear hf; intro a hf
                            refine qY hf rfl rfl rfl (Y_move rfl rfl) ?_; clear hf; intro a hf
                            refine bsplit (q1643 != (-1000000000000000)) (fun hb1645 => ?_) (fun hb1645 => ?_)
                            · have hj1633 := bif_t hj1633 hb1645
                              refine qYg hf rfl rfl rfl (congrArg (fun b => some (Value.bool b)) hb1645) rfl rfl rfl (Y_move rfl rfl) ?_; clear hf; intro a hf
                              refine qYg hf rfl rfl rfl (congrArg (fun b => some (Value.bool b)) hb1645) rfl rfl rfl (Y_move rfl rfl) ?_; clear hf; intro a hf
                              obtain ⟨q1646, hi1647, hj1633⟩ := bind_some hj1633
                              obtain ⟨hi1647a, hi1647b, hi1647q⟩ := idx_some hi1647
                              obtain ⟨vs1648, hv1649, hr1650⟩ := id h_p0_1
                              obtain ⟨A1651, c1652, hv1653, hR1654⟩ := hr1650 _ _ hi1647q
                              refine qYg hf rfl rfl rfl (congrArg (fun b => some (Value.bool b)) hb1645) rfl rfl rfl (Y_index rfl rfl rfl el59 ti23 (Rd.isAt hv1649 hv1653) hi1647a hi1647b) ?_; clear hf; intro a hf
                              refine qYg hf rfl rfl rfl (congrArg (fun b => some (Value.bool b)) hb1645) rfl rfl rfl (Y_load_rd rfl rfl (fun w hs => hv1649.at hs) (at1 hv1653) ag23) ?_; clear hf; intro a hf
                              refine qYg hf rfl rfl rfl (congrArg (fun b => some (Value.bool b)) hb1645) rfl rfl rfl (Y_move rfl rfl) ?_; clear hf; intro a hf
                              obtain ⟨q1655, hi1656, hj1633⟩ := bind_some hj1633
                              obtain ⟨hi1656a, hi1656b, hi1656q⟩ := idx_some hi1656
                              refine qYg hf rfl rfl rfl (congrArg (fun b => some (Value.bool b)) hb1645) rfl rfl rfl (Y_index rfl rfl rfl el23 ti2 (Rd.isAt (hR1654.at hs) (at1 (ints_at hi1656q))) hi1656a hi1656b) ?_; clear hf; intro a hf
                              refine qYg hf rfl rfl rfl (congrArg (fun b => some (Value.bool b)) hb1645) rfl rfl rfl (Y_load_rd rfl rfl (fun w hs => hR1654.at hs) (at1 (ints_at hi1656q)) ag2) ?_; clear hf; intro a hf
                              refine qYg hf rfl rfl rfl (congrArg (fun b => some (Value.bool b)) hb1645) rfl rfl rfl (Y_move rfl rfl) ?_; clear hf; intro a hf
                              refine qYg hf rfl rfl rfl (congrArg (fun b => some (Value.bool b)) hb1645) rfl rfl rfl (Y_move rfl rfl) ?_; clear hf; intro a hf
                              obtain ⟨q1657, hi1658, hj1633⟩ := bind_some hj1633
                              obtain ⟨hi1658a, hi1658b, hi1658q⟩ := idx_some hi1658
                              obtain ⟨A1659, c1660, us1661, ht1662⟩ := hs.cubAt (i := 0) rfl hi1658q
                              refine qYg hf rfl rfl rfl (congrArg (fun b => some (Value.bool b)) hb1645) rfl rfl rfl (Y_index rfl rfl rfl el22 ti59 (Rd.isAt (hs.rdVC (i := 0) rfl) (mt_at ht1662)) hi1658a (ltn hn189 hi1658b)) ?_; clear hf; intro a hf
                              refine qYg hf rfl rfl rfl (congrArg (fun b => some (Value.bool b)) hb1645) rfl rfl rfl (Y_load_rd rfl rfl (fun w hs => hs.rdVC (i := 0) rfl) (at1 (mt_at ht1662)) ag59) ?_; clear hf; intro a hf
                              refine qYg hf rfl rfl rfl (congrArg (fun b => some (Value.bool b)) hb1645) rfl rfl rfl (Y_move rfl rfl) ?_; clear hf; intro a hf
                              obtain ⟨q1663, hi1664, hj1633⟩ := bind_some hj1633
                              obtain ⟨hi1664a, hi1664b, hi1664q⟩ := idx_some hi1664
                              obtain ⟨A1665, c1666, hv1667⟩ := hs.cubRow (i := 0) rfl ht1662 hi1664q
                              refine qYg hf rfl rfl rfl (congrArg (fun b => some (Value.bool b)) hb1645) rfl rfl rfl (Y_index rfl rfl rfl el59 ti23 (Rd.isAt (hs.rdVM (i := 0) rfl ht1662) hv1667) hi1664a hi1664b) ?_; clear hf; intro a hf
                              refine qYg hf rfl rfl rfl (congrArg (fun b => some (Value.bool b)) hb1645) rfl rfl rfl (Y_load_rd rfl rfl (fun w hs => hs.rdVM (i := 0) rfl ht1662) (at1 hv1667) ag23) ?_; clear hf; intro a hf
                              refine qYg hf rfl rfl rfl (congrArg (fun b => some (Value.bool b)) hb1645) rfl rfl rfl (Y_move rfl rfl) ?_; clear hf; intro a hf
                              obtain ⟨q1668, hi1669, hj1633⟩ := bind_some hj1633
                              obtain ⟨hi1669a, hi1669b, hi1669q⟩ := idx_some hi1669
                              refine qYg hf rfl rfl rfl (congrArg (fun b => some (Value.bool b)) hb1645) rfl rfl rfl (Y_index rfl rfl rfl el23 ti2 (Rd.isAt (hs.rdCRow (i := 0) rfl ht1662 hi1664q hv1667) (at1 (ints_at hi1669q))) hi1669a hi1669b) ?_; clear hf; intro a hf
                              refine qYg hf rfl rfl rfl (congrArg (fun b => some (Value.bool b)) hb1645) rfl rfl rfl (Y_load_rd rfl rfl (fun w hs => hs.rdCRow (i := 0) rfl ht1662 hi1664q hv1667) (at1 (ints_at hi1669q)) ag2) ?_; clear hf; intro a hf
                              obtain ⟨r1670, hc1671, hj1633⟩ := bind_some hj1633
                              refine qCallg hf rfl rfl rfl (congrArg (fun b => some (Value.bool b)) hb1645) rfl rfl rfl rfl (cap := []) rfl rfl en65 (v := .int .i64 r1670) (fun w hs => Calls.scal (spec_l01Times_ok F q1655 q1668 _ _ hc1671)) ?_; clear hf; intro a hf
                              refine qYg hf rfl rfl rfl (congrArg (fun b => some (Value.bool b)) hb1645) rfl rfl rfl (Y_move rfl rfl) ?_; clear hf; intro a hf
                              refine qYg hf rfl rfl rfl (congrArg (fun b => some (Value.bool b)) hb1645) rfl rfl rfl (Y_eql rfl rfl rfl) ?_; clear hf; intro a hf
                              refine qY hf rfl rfl rfl (Y_pickT rfl (congrArg (fun b => some (Value.bool b)) hb1645) rfl) ?_; clear hf; intro a hf
                              refine qNil ?_; clear hs; intro w hs
                              refine wpL_nil (then_normal ?_)
                              exact ⟨(r1670 == x973), Option.some.inj hj1633, (FrD.pick (FrD.pick (FrD.pick (FrD.pick (FrD.pick (FrD.pick (FrD.pick (FrD.pick (FrD.pick (FrD.pick hf.none hf rfl) hf rfl) hf rfl) hf rfl) hf rfl) hf rfl) hf rfl) hf rfl) hf rfl) hf rfl), hs⟩
                            · have hj1633 := bif_f hj1633 hb1645
                              refine qNo hf rfl rfl rfl (congrArg (fun b => some (Value.bool b)) hb1645) rfl rfl rfl ?_; clear hf; intro a hf
                              refine qNo hf rfl rfl rfl (congrArg (fun b => some (Value.bool b)) hb1645) rfl rfl rfl ?_; clear hf; intro a hf
                              refine qNo hf rfl rfl rfl (congrArg (fun b => some (Value.bool b)) hb1645) rfl rfl rfl ?_; clear hf; intro a hf
                              refine qNo hf rfl rfl rfl (congrArg (fun b => some (Value.bool b)) hb1645) rfl rfl rfl ?_; clear hf; intro a hf
                              refine qNo hf rfl rfl rfl (congrArg (fun b => some (Value.bool b)) hb1645) rfl rfl rfl ?_; clear hf; intro a hf
                              refine qNo hf rfl rfl rfl (congrArg (fun b => some (Value.bool b)) hb1645) rfl rfl rfl ?_; clear hf; intro a hf
                              refine qNo hf rfl rfl rfl (congrArg (fun b => some (Value.bool b)) hb1645) rfl rfl rfl ?_; clear hf; intro a hf
                              refine qNo hf rfl rfl rfl (congrArg (fun b => some (Value.bool b)) hb1645) rfl rfl rfl ?_; clear hf; intro a hf
                              refine qNo hf rfl rfl rfl (congrArg (fun b => some (Value.bool b)) hb1645) rfl rfl rfl ?_; clear hf; intro a hf
                              refine qNo hf rfl rfl rfl (congrArg (fun b => some (Value.bool b)) hb1645) rfl rfl rfl ?_; clear hf; intro a hf
                              refine qNo hf rfl rfl rfl (congrArg (fun b => some (Value.bool b)) hb1645) rfl rfl rfl ?_; clear hf; intro a hf
                              refine qNo hf rfl rfl rfl (congrArg (fun b => some (Value.bool b)) hb1645) rfl rfl rfl ?_; clear hf; intro a hf
                              refine qNo hf rfl rfl rfl (congrArg (fun b => some (Value.bool b)) hb1645) rfl rfl rfl ?_; clear hf; intro a hf
                              refine qNo hf rfl rfl rfl (congrArg (fun b => some (Value.bool b)) hb1645) rfl rfl rfl ?_; clear hf; intro a hf
                              refine qNo hf rfl rfl rfl (congrArg (fun b => some (Value.bool b)) hb1645) rfl rfl rfl ?_; clear hf; intro a hf
                              refine qNo hf rfl rfl rfl (congrArg (fun b => some (Value.bool b)) hb1645) rfl rfl rfl ?_; clear hf; intro a hf
                              refine qNo hf rfl rfl rfl (congrArg (fun b => some (Value.bool b)) hb1645) rfl rfl rfl ?_; clear hf; intro a hf
                              refine qNo hf rfl rfl rfl (congrArg (fun b => some (Value.bool b)) hb1645) rfl rfl rfl ?_; clear hf; intro a hf
                              refine qNo hf rfl rfl rfl (congrArg (fun b => some (Value.bool b)) hb1645) rfl rfl rfl ?_; clear hf; intro a hf
                              refine qNo hf rfl rfl rfl (congrArg (fun b => some (Value.bool b)) hb1645) rfl rfl rfl ?_; clear hf; intro a hf
                              refine qY hf rfl rfl rfl (Y_pickF rfl (congrArg (fun b => some (Value.bool b)) hb1645) rfl) ?_; clear hf; intro a hf
                              refine qNil ?_; clear hs; intro w hs
                              refine wpL_nil (then_normal ?_)
                              exact ⟨false, Option.some.inj hj1633, (FrD.pick (FrD.pick (FrD.pick (FrD.pick (FrD.pick (FrD.pick (FrD.pick (FrD.pick (FrD.pick (FrD.pick hf.none hf rfl) hf rfl) hf rfl) hf rfl) hf rfl) hf rfl) hf rfl) hf rfl) hf rfl) hf rfl), hs⟩
                          · rintro a w ⟨b1631, hr_, hf, hs⟩
                            subst hr_
                            try dsimp only at hm1590
                            refine wpL_cond hf rfl (fun hb1672 => ?_) (fun hb1672 => ?_)
                            · have hm1590 := bif_t hm1590 hb1672
                              refine wpL_region ?_
                              refine sY hf hs rfl rfl rfl (Y_move rfl rfl) ?_; clear hf; intro a hf
                              refine sY hf hs rfl rfl rfl (Y_assign rfl rfl) ?_; clear hf; intro a hf
                              refine wpO_nil ?_
                              refine wpL_nil (Qb_normal ?_)
                              refine wpL_region ?_
                              refine sY hf hs rfl rfl rfl (Y_move rfl rfl) ?_; clear hf; intro a hf
                              refine sY hf hs rfl rfl rfl (Y_sub rfl rfl rfl) ?_; clear hf; intro a hf
                              refine sY hf hs rfl rfl rfl (Y_assign rfl rfl) ?_; clear hf; intro a hf
                              refine wpO_nil ?_
                              refine wpL_nil (Ql_normal ?_)
                              exact ⟨x1505, (IntKind.i64.wrap (x1505 - 1)), hm1590, (FrD.pick (FrD.pick (FrD.pick (FrD.pick (FrD.pick (FrD.pick (FrD.pick (FrD.pick (FrD.pick hf.none hf rfl) hf rfl) hf rfl) hf rfl) hf rfl) hf rfl) hf rfl) hf rfl) hf rfl), hs⟩
                            · have hm1590 := bif_f hm1590 hb1672
                              refine wpL_skip ?_
                              refine wpL_nil (Qb_normal ?_)
                              refine wpL_region ?_
                              refine sY hf hs rfl rfl rfl (Y_move rfl rfl) ?_; clear hf; intro a hf
                              refine sY hf hs rfl rfl rfl (Y_sub rfl rfl rfl) ?_; clear hf; intro a hf
                              refine sY hf hs rfl rfl rfl (Y_assign rfl rfl) ?_; clear hf; intro a hf
                              refine wpO_nil ?_
                              refine wpL_nil (Ql_normal ?_)
                              exact ⟨x1504, (IntKind.i64.wrap (x1505 - 1)), hm1590, (FrD.pick (FrD.pick (FrD.pick (FrD.pick (FrD.pick (FrD.pick (FrD.pick (FrD.pick (FrD.pick hf.none hf rfl) hf rfl) hf rfl) hf rfl) hf rfl) hf rfl) hf rfl) hf rfl) hf rfl), hs⟩
                        · have hm1590 := bif_f hm1590 hb1592
                          refine wpL_exit (Ql_exit (Qb_exit ?_))
                          exact ⟨x1504, Option.some.inj hm1590, (FrD.pick (FrD.pick (FrD.pick (FrD.pick (FrD.pick (FrD.pick (FrD.pick (FrD.pick hf.none hf rfl) hf rfl) hf rfl) hf rfl) hf rfl) hf rfl) hf rfl) hf rfl), hs⟩
                    · rintro a w ⟨x1587, hr_, hf, hs⟩
                      subst hr_
                      try dsimp only at hm1335
                      refine wpL_seq ?_
                      refine wpL_region ?_
                      refine sY hf hs rfl rfl rfl (Y_move rfl rfl) ?_; clear hf; intro a hf
                      refine sY hf hs rfl rfl rfl (Y_move rfl rfl) ?_; clear hf; intro a hf
                      refine sY hf hs rfl rfl rfl (Y_move rfl rfl) ?_; clear hf; intro a hf
                      obtain ⟨q1673, hi1674, hm1335⟩ := bind_some hm1335
                      obtain ⟨hi1674a, hi1674b, hi1674q⟩ := idx_some hi1674
                      obtain ⟨vs1675, hv1676, hr1677⟩ := id h_p0_1
                      obtain ⟨A1678, c1679, hv1680, hR1681⟩ := hr1677 _ _ hi1674q
                      refine sY hf hs rfl rfl rfl (Y_index rfl rfl rfl el59 ti23 (Rd.isAt hv1676 hv1680) hi1674a hi1674b) ?_; clear hf; intro a hf
                      refine sY hf hs rfl rfl rfl (Y_load_rd rfl rfl (fun w hs => hv1676.at hs) (at1 hv1680) ag23) ?_; clear hf; intro a hf
                      refine sY hf hs rfl rfl rfl (Y_move rfl rfl) ?_; clear hf; intro a hf
                      obtain ⟨q1682, hi1683, hm1335⟩ := bind_some hm1335
                      obtain ⟨hi1683a, hi1683b, hi1683q⟩ := idx_some hi1683
                      refine sY hf hs rfl rfl rfl (Y_index rfl rfl rfl el23 ti2 (Rd.isAt (hR1681.at hs) (at1 (ints_at hi1683q))) hi1683a hi1683b) ?_; clear hf; intro a hf
                      refine sY hf hs rfl rfl rfl (Y_load_rd rfl rfl (fun w hs => hR1681.at hs) (at1 (ints_at hi1683q)) ag2) ?_; clear hf; intro a hf
                      refine sY hf hs rfl rfl rfl (Y_sub rfl rfl rfl) ?_; clear hf; intro a hf
                      refine sY hf hs rfl rfl rfl (Y_assign rfl rfl) ?_; clear hf; intro a hf
                      refine wpO_nil ?_
                      refine wpL_region ?_
                      refine sY hf hs rfl rfl rfl (Y_move rfl rfl) ?_; clear hf; intro a hf
                      refine sY hf hs rfl rfl rfl (Y_move rfl rfl) ?_; clear hf; intro a hf
                      refine sBuildSlice (parts := [(0, .tmp 152)]) (vs := [.int .i64 x1587]) (cells := [.int .i64 x1587]) hf hs rfl rfl rfl rfl rfl el23 ti2 rfl rfl rfl rfl ?_; clear hf hs; intro a w A1684 hs hA1685 hf
                      have hs : St [] W w [.cub A186 n187 c188 59 23 2 vs190 ms185, .row A969 n970 c971 2 1 (ints xs968), .row A1684 1 1 2 1 (ints ([x1587]))] := hs
                      obtain ⟨xs1688, ha1689, hm1335⟩ := bind_some hm1335
                      refine sAppendL (i := 1) (xs := xs968) (ys := [x1587]) (enc := ints) hf hs rfl rfl rfl rfl rfl rfl hn972 rfl rfl ha1689 el23 ti2 rfl rfl rfl (hs.rd (i := 2) rfl) (Nat.succ_pos _) ints_len1 ints_append ints_one ?_; clear hf hs; intro a w A1686 c1687 hs hf
                      have hs : St [] W w [.cub A186 n187 c188 59 23 2 vs190 ms185, .row A1686 xs1688.length c1687 2 1 (ints xs1688), .row A1684 1 1 2 1 (ints ([x1587]))] := hs
                      refine sY hf hs rfl rfl rfl (Y_assign rfl rfl) ?_; clear hf; intro a hf
                      refine wpO_nil ?_
                      refine wpL_nil (Qb_normal ?_)
                      refine wpL_region ?_
                      refine sY hf hs rfl rfl rfl (Y_move rfl rfl) ?_; clear hf; intro a hf
                      refine sY hf hs rfl rfl rfl (Y_sub rfl rfl rfl) ?_; clear hf; intro a hf
                      refine sY hf hs rfl rfl rfl (Y_assign rfl rfl) ?_; clear hf; intro a hf
                      refine wpO_nil ?_
                      refine wpL_nil (Ql_normal ?_)
                      exact ⟨xs1688, (IntKind.i64.wrap (x973 - q1682)), (IntKind.i64.wrap (x974 - 1)), A1686, xs1688.length, c1687, hm1335, rfl, (FrD.pick (FrD.pick (FrD.pick (FrD.pick (FrD.pick (FrD.pick hf.none hf rfl) hf rfl) hf rfl) hf rfl) hf rfl) hf rfl), hs.sel [0, 1] (by decide)⟩
                  · have hm1335 := bif_f hm1335 hb1337
                    refine wpL_exit (Ql_exit (Qb_exit ?_))
                    exact ⟨xs968, A969, n970, c971, Option.some.inj hm1335, hn972, (FrD.pick hf.none hf rfl), hs.sel [1] (by decide)⟩
              · rintro a w ⟨xs1328, A1329, n1330, c1331, hr_, hn1332, hf, hs⟩
                subst hr_
                try dsimp only at hm
                refine wpL_seq ?_
                refine wpL_region ?_
                refine sY hf hs rfl rfl rfl (Y_move rfl rfl) ?_; clear hf; intro a hf
                refine sY hf hs rfl rfl rfl (Y_assign rfl rfl) ?_; clear hf; intro a hf
                refine sY hf hs rfl rfl rfl (Y_assign rfl rfl) ?_; clear hf; intro a hf
                refine wpO_nil ?_
                obtain rfl := Option.some.inj hm
                refine wpL_ret (ret_tmp2 rfl hf rfl rfl ?_)
                exact ⟨_, rfl, A1329, n1330, c1331, rfl, hn1332, hs⟩

set_option maxRecDepth 100000 in
theorem spec_FindSqueeze_ok (F : Nat) (p0 : List GWindow) (A_p0_1 : Option Addr) (n_p0_1 c_p0_1 : Nat) (hn_p0_1 : n_p0_1 = p0.length) (p1 : List GBond) (A_p1_1 : Option Addr) (n_p1_1 c_p1_1 : Nat) (hn_p1_1 : n_p1_1 = p1.length) (r : List Int × Int) (W : World) (hm : spec_FindSqueeze F p0 p1 = some r) (h_p0_1 : Rd W A_p0_1 ((recs GWindow.cells) p0)) (h_p1_1 : Rd W A_p1_1 ((recs GBond.cells) p1)) :
    Calls Try.prog 23 [.slice A_p0_1 n_p0_1 c_p0_1, .slice A_p1_1 n_p1_1 c_p1_1].toArray W fun e w' => ∃ v, e = .returned v ∧ ∃ A504, ∃ n505, ∃ c506, v = .tuple #[.slice A504 n505 c506, .int .i64 r.2] ∧ n505 = r.1.length ∧ St [] W w' [.row A504 n505 c506 2 1 (ints r.1)] := by
  subst hn_p0_1
  subst hn_p1_1
  unfold spec_FindSqueeze at hm
  refine Calls.enter (N := 69) Try.func23 rfl rfl rfl (fun a hf => ?_)
  have hs := St.start W
  obtain ⟨w, hw_⟩ : ∃ w, w = W := ⟨W, rfl⟩
  clear hw_ w
  refine wpL_seq ?_
  refine wpL_region ?_
  refine sY hf hs rfl rfl rfl (Y_assign rfl rfl) ?_; clear hf; intro a hf
  refine sY hf hs rfl rfl rfl (Y_assign rfl rfl) ?_; clear hf; intro a hf
  refine wpO_nil ?_
  refine wpL_seq ?_
  refine wpL_seq ?_
  refine wpL_region ?_
  refine sY hf hs rfl rfl rfl (Y_move rfl rfl) ?_; clear hf; intro a hf
  refine sY hf hs rfl rfl rfl (Y_move rfl rfl) ?_; clear hf; intro a hf
  obtain ⟨r1, hc2, hm⟩ := bind_some hm
  refine sCall hf rfl rfl rfl rfl (cap := []) rfl rfl en62 (spec_IsTask_ok F p0 A_p0_1 p0.length c_p0_1 rfl p1 A_p1_1 p1.length c_p1_1 rfl _ _ hc2 (h_p0_1.at hs) (h_p1_1.at hs)) ?_; clear hf
  rintro _ w ⟨rfl, hs1⟩ a hf
  have hs : St [] W w [] := hs.ext hs1.below
  clear hs1
  refine sY hf hs rfl rfl rfl (Y_not rfl rfl) ?_; clear hf; intro a hf
  refine wpO_nil ?_
  refine wpL_cond hf rfl (fun hb3 => ?_) (fun hb3 => ?_)
  · have hm := bif_t hm hb3
    refine wpL_seq ?_
    refine wpL_region ?_
    refine sY hf hs rfl rfl rfl (Y_assign rfl rfl) ?_; clear hf; intro a hf
    refine sY hf hs rfl rfl rfl (Y_assign rfl rfl) ?_; clear hf; intro a hf
    refine wpO_nil ?_
    have hs : St [] W _ [.row none 0 0 2 1 (ints ([] : List Int))] := hs.addNil 2 1
    obtain rfl := Option.some.inj hm
    refine wpL_ret (ret_tmp2 rfl hf rfl rfl ?_)
    exact ⟨_, rfl, none, 0, 0, rfl, rfl, hs⟩
  · have hm := bif_f hm hb3
    refine wpL_skip ?_
    refine wpL_seq ?_
    refine wpL_region ?_
    refine sY hf hs rfl rfl rfl (Y_move rfl rfl) ?_; clear hf; intro a hf
    refine sY hf hs rfl rfl rfl (Y_lenH rfl rfl el39 rfl) ?_; clear hf; intro a hf
    refine sY hf hs rfl rfl rfl (Y_assign rfl rfl) ?_; clear hf; intro a hf
    refine wpO_nil ?_
    refine wpL_seq ?_
    refine wpL_region ?_
    refine sY hf hs rfl rfl rfl (Y_move rfl rfl) ?_; clear hf; intro a hf
    refine sY hf hs rfl rfl rfl (Y_move rfl rfl) ?_; clear hf; intro a hf
    obtain ⟨r5, hc6, hm⟩ := bind_some hm
    refine sCall hf rfl rfl rfl rfl (cap := []) rfl rfl en63 (spec_l23Matrix_ok F (p0.length : Int) p1 A_p1_1 p1.length c_p1_1 rfl _ _ hc6 (h_p1_1.at hs)) ?_; clear hf
    rintro _ w ⟨A7, n8, c9, vs11, rfl, hn10, hs1⟩ a hf
    have hs : St [] W w [.mat A7 n8 c9 23 2 vs11 r5] := hs.join hs1
    clear hs1
    refine sY hf hs rfl rfl rfl (Y_assign rfl rfl) ?_; clear hf; intro a hf
    refine wpO_nil ?_
    refine wpL_seq ?_
    refine wpL_region ?_
    refine sY hf hs rfl rfl rfl (Y_move rfl rfl) ?_; clear hf; intro a hf
    obtain ⟨r12, hc13, hm⟩ := bind_some hm
    refine sCall hf rfl rfl rfl rfl (cap := []) rfl rfl en64 (spec_l03Star_ok F r5 A7 n8 c9 hn10 _ _ hc13 (hs.rdM (i := 0) rfl)) ?_; clear hf
    rintro _ w ⟨A14, n15, c16, vs18, rfl, hn17, hs1⟩ a hf
    have hs : St [] W w [.mat A7 n8 c9 23 2 vs11 r5, .mat A14 n15 c16 23 2 vs18 r12.1] := hs.join hs1
    clear hs1
    refine sY hf hs rfl rfl rfl (Y_move rfl rfl) ?_; clear hf; intro a hf
    refine sY hf hs rfl rfl rfl (Y_extract rfl rfl rfl) ?_; clear hf; intro a hf
    refine sY hf hs rfl rfl rfl (Y_extract rfl rfl rfl) ?_; clear hf; intro a hf
    refine sY hf hs rfl rfl rfl (Y_assign rfl rfl) ?_; clear hf; intro a hf
    refine sY hf hs rfl rfl rfl (Y_assign rfl rfl) ?_; clear hf; intro a hf
    refine wpO_nil ?_
    refine wpL_seq ?_
    refine wpL_seq ?_
    refine wpL_region ?_
    refine sY hf hs rfl rfl rfl (Y_move rfl rfl) ?_; clear hf; intro a hf
    refine sY hf hs rfl rfl rfl (Y_not rfl rfl) ?_; clear hf; intro a hf
    refine wpO_nil ?_
    refine wpL_cond hf rfl (fun hb19 => ?_) (fun hb19 => ?_)
    · have hm := bif_t hm hb19
      refine wpL_seq ?_
      refine wpL_region ?_
      refine sY hf hs rfl rfl rfl (Y_assign rfl rfl) ?_; clear hf; intro a hf
      refine sY hf hs rfl rfl rfl (Y_assign rfl rfl) ?_; clear hf; intro a hf
      refine wpO_nil ?_
      have hs : St [] W _ [.mat A7 n8 c9 23 2 vs11 r5, .mat A14 n15 c16 23 2 vs18 r12.1, .row none 0 0 2 1 (ints ([] : List Int))] := hs.addNil 2 1
      obtain rfl := Option.some.inj hm
      refine wpL_ret (ret_tmp2 rfl hf rfl rfl ?_)
      exact ⟨_, rfl, none, 0, 0, rfl, rfl, hs.sel [2] (by decide)⟩
    · have hm := bif_f hm hb19
      refine wpL_skip ?_
      refine wpL_seq ?_
      refine wpL_seq ?_
      refine wpL_region ?_
      refine sY hf hs rfl rfl rfl (Y_assign rfl rfl) ?_; clear hf; intro a hf
      refine wpO_nil ?_
      obtain ⟨r380, hl381, hm⟩ := bind_some hm
      refine wpL_block (fun a w => Sum.inr () = r380 ∧ Fr a 69 [] ∧ St [] W w []) ?_ ?_
      · refine wpL_loop (fun n a w => ∃ x260 : Int, spec_FindSqueeze_L4 F p0 r5 r12 n x260 = some r380 ∧ Fr a 69 [(0, .slice A_p0_1 p0.length c_p0_1), (6, .int .i64 (p0.length : Int)), (7, .slice A7 n8 c9), (8, .slice A14 n15 c16), (10, .int .i64 x260)] ∧ St [] W w [.mat A7 n8 c9 23 2 vs11 r5, .mat A14 n15 c16 23 2 vs18 r12.1]) F ?_ ?_ ?_
        · exact ⟨0, hl381, (FrD.pick (FrD.pick (FrD.pick (FrD.pick (FrD.pick hf.none hf rfl) hf rfl) hf rfl) hf rfl) hf rfl), hs⟩
        · rintro a w ⟨x260, h0_, -, -⟩; simp [spec_FindSqueeze_L4] at h0_
        · rintro n383 a w ⟨x260, hm382, hf, hs⟩
          rw [spec_FindSqueeze_L4] at hm382
          refine wpL_seq ?_
          refine wpL_seq ?_
          refine wpL_region ?_
          refine sY hf hs rfl rfl rfl (Y_move rfl rfl) ?_; clear hf; intro a hf
          refine sY hf hs rfl rfl rfl (Y_move rfl rfl) ?_; clear hf; intro a hf
          refine sY hf hs rfl rfl rfl (Y_lss rfl rfl rfl) ?_; clear hf; intro a hf
          refine wpO_nil ?_
          refine wpL_cond hf rfl (fun hb384 => ?_) (fun hb384 => ?_)
          · have hm382 := bif_t hm382 hb384
            refine wpL_skip ?_
            refine wpL_seq ?_
            refine wpL_block0 ?_
            refine wpL_seq ?_
            refine wpL_region ?_
            refine sY hf hs rfl rfl rfl (Y_assign rfl rfl) ?_; clear hf; intro a hf
            refine wpO_nil ?_
            obtain ⟨r471, hl472, hm382⟩ := bind_some hm382
            refine wpL_block (fun a w => Sum.inr () = r471 ∧ Fr a 69 [(0, .slice A_p0_1 p0.length c_p0_1), (6, .int .i64 (p0.length : Int)), (7, .slice A7 n8 c9), (8, .slice A14 n15 c16), (10, .int .i64 x260)] ∧ St [] W w [.mat A7 n8 c9 23 2 vs11 r5, .mat A14 n15 c16 23 2 vs18 r12.1]) ?_ ?_
            · refine wpL_loop (fun n a w => ∃ x442 : Int, spec_FindSqueeze_L5 F p0 r5 r12 x260 n x442 = some r471 ∧ Fr a 69 [(0, .slice A_p0_1 p0.length c_p0_1), (6, .int .i64 (p0.length : Int)), (7, .slice A7 n8 c9), (8, .slice A14 n15 c16), (10, .int .i64 x260), (11, .int .i64 x442)] ∧ St [] W w [.mat A7 n8 c9 23 2 vs11 r5, .mat A14 n15 c16 23 2 vs18 r12.1]) F ?_ ?_ ?_
              · exact ⟨0, hl472, (FrD.pick (FrD.pick (FrD.pick (FrD.pick (FrD.pick (FrD.pick hf.none hf rfl) hf rfl) hf rfl) hf rfl) hf rfl) hf rfl), hs⟩
              · rintro a w ⟨x442, h0_, -, -⟩; simp [spec_FindSqueeze_L5] at h0_
              · rintro n474 a w ⟨x442, hm473, hf, hs⟩
                rw [spec_FindSqueeze_L5] at hm473
                refine wpL_seq ?_
                refine wpL_seq ?_
                refine wpL_region ?_
                refine sY hf hs rfl rfl rfl (Y_move rfl rfl) ?_; clear hf; intro a hf
                refine sY hf hs rfl rfl rfl (Y_move rfl rfl) ?_; clear hf; intro a hf
                refine sY hf hs rfl rfl rfl (Y_lss rfl rfl rfl) ?_; clear hf; intro a hf
                refine wpO_nil ?_
                refine wpL_cond hf rfl (fun hb475 => ?_) (fun hb475 => ?_)
                · have hm473 := bif_t hm473 hb475
                  refine wpL_skip ?_
                  refine wpL_seq ?_
                  refine wpL_block0 ?_
                  refine wpL_seq ?_
                  refine wpL_draw (by kernel_rfl) (by kernel_rfl) hs ?_
                  refine qY hf rfl rfl rfl (Y_move rfl rfl) ?_; clear hf; intro a hf
                  refine qY hf rfl rfl rfl (Y_move rfl rfl) ?_; clear hf; intro a hf
                  obtain ⟨q476, hi477, hm473⟩ := bind_some hm473
                  obtain ⟨hi477a, hi477b, hi477q⟩ := idx_some hi477
                  refine qY hf rfl rfl rfl (Y_index rfl rfl rfl el39 ti86 (Rd.isAt (h_p0_1.at hs) (recs_at (s := 2) GWindow.len hi477q (j := 0) rfl)) hi477a hi477b) ?_; clear hf; intro a hf
                  refine qY hf rfl rfl rfl (Y_fieldAddrE rfl rfl fo86_0) ?_; clear hf; intro a hf
                  refine qY hf rfl rfl rfl (Y_load_rd rfl rfl (fun w hs => h_p0_1.at hs) (recs_at (s := 2) GWindow.len hi477q (j := 0) rfl) ag2) ?_; clear hf; intro a hf
                  refine qY hf rfl rfl rfl (Y_move rfl rfl) ?_; clear hf; intro a hf
                  refine qY hf rfl rfl rfl (Y_move rfl rfl) ?_; clear hf; intro a hf
                  obtain ⟨q478, hi479, hm473⟩ := bind_some hm473
                  obtain ⟨hi479a, hi479b, hi479q⟩ := idx_some hi479
                  obtain ⟨A480, c481, hv482⟩ := hs.matRow (i := 1) rfl hi479q
                  refine qY hf rfl rfl rfl (Y_index rfl rfl rfl el59 ti23 (Rd.isAt (hs.rdV (i := 1) rfl) hv482) hi479a (ltn hn17 hi479b)) ?_; clear hf; intro a hf
                  refine qY hf rfl rfl rfl (Y_load_rd rfl rfl (fun w hs => hs.rdV (i := 1) rfl) (at1 hv482) ag23) ?_; clear hf; intro a hf
                  refine qY hf rfl rfl rfl (Y_move rfl rfl) ?_; clear hf; intro a hf
                  obtain ⟨q483, hi484, hm473⟩ := bind_some hm473
                  obtain ⟨hi484a, hi484b, hi484q⟩ := idx_some hi484
                  refine qY hf rfl rfl rfl (Y_index rfl rfl rfl el23 ti2 (Rd.isAt (hs.rdRow (i := 1) rfl ⟨hi479q, hv482⟩) (at1 (ints_at hi484q))) hi484a hi484b) ?_; clear hf; intro a hf
                  refine qY hf rfl rfl rfl (Y_load_rd rfl rfl (fun w hs => hs.rdRow (i := 1) rfl ⟨hi479q, hv482⟩) (at1 (ints_at hi484q)) ag2) ?_; clear hf; intro a hf
                  obtain ⟨r485, hc486, hm473⟩ := bind_some hm473
                  refine qCall hf rfl rfl rfl rfl (cap := []) rfl rfl en65 (v := .int .i64 r485) (fun w hs => Calls.scal (spec_l01Times_ok F q476.Low q483 _ _ hc486)) ?_; clear hf; intro a hf
                  refine qY hf rfl rfl rfl (Y_assign rfl rfl) ?_; clear hf; intro a hf
                  refine qNil ?_; clear hs; intro w hs
                  refine wpL_seq ?_
                  obtain ⟨r491, hj492, hm473⟩ := bind_some hm473
                  refine wpL_cut (fun a w => ∃ b490 : Bool, b490 = r491 ∧ Fr a 69 [(0, .slice A_p0_1 p0.length c_p0_1), (6, .int .i64 (p0.length : Int)), (7, .slice A7 n8 c9), (8, .slice A14 n15 c16), (10, .int .i64 x260), (11, .int .i64 x442), (62, .bool b490)] ∧ St [] W w [.mat A7 n8 c9 23 2 vs11 r5, .mat A14 n15 c16 23 2 vs18 r12.1]) ?_ ?_
                  · refine wpL_region ?_
                    refine sY hf hs rfl rfl rfl (Y_move rfl rfl) ?_; clear hf; intro a hf
                    refine sY hf hs rfl rfl rfl (Y_neq rfl rfl rfl) ?_; clear hf; intro a hf
                    refine sY hf hs rfl rfl rfl (Y_move rfl rfl) ?_; clear hf; intro a hf
                    refine bsplit (r485 != (-1000000000000000)) (fun hb493 => ?_) (fun hb493 => ?_)
                    · have hj492 := bif_t hj492 hb493
                      refine sYg hf hs rfl rfl rfl (congrArg (fun b => some (Value.bool b)) hb493) rfl rfl rfl (Y_move rfl rfl) ?_; clear hf; intro a hf
                      refine sYg hf hs rfl rfl rfl (congrArg (fun b => some (Value.bool b)) hb493) rfl rfl rfl (Y_move rfl rfl) ?_; clear hf; intro a hf
                      refine sYg hf hs rfl rfl rfl (congrArg (fun b => some (Value.bool b)) hb493) rfl rfl rfl (Y_move rfl rfl) ?_; clear hf; intro a hf
                      obtain ⟨q494, hi495, hj492⟩ := bind_some hj492
                      obtain ⟨hi495a, hi495b, hi495q⟩ := idx_some hi495
                      refine sYg hf hs rfl rfl rfl (congrArg (fun b => some (Value.bool b)) hb493) rfl rfl rfl (Y_index rfl rfl rfl el39 ti86 (Rd.isAt (h_p0_1.at hs) (recs_at (s := 2) GWindow.len hi495q (j := 0) rfl)) hi495a hi495b) ?_; clear hf; intro a hf
                      refine sYg hf hs rfl rfl rfl (congrArg (fun b => some (Value.bool b)) hb493) rfl rfl rfl (Y_fieldAddrE rfl rfl fo86_1) ?_; clear hf; intro a hf
                      refine sYg hf hs rfl rfl rfl (congrArg (fun b => some (Value.bool b)) hb493) rfl rfl rfl (Y_load_rd rfl rfl (fun w hs => h_p0_1.at hs) (recs_at (s := 2) GWindow.len hi495q (j := 1) rfl) ag2) ?_; clear hf; intro a hf
                      refine sYg hf hs rfl rfl rfl (congrArg (fun b => some (Value.bool b)) hb493) rfl rfl rfl (Y_gtr rfl rfl rfl) ?_; clear hf; intro a hf
                      refine sY hf hs rfl rfl rfl (Y_pickT rfl (congrArg (fun b => some (Value.bool b)) hb493) rfl) ?_; clear hf; intro a hf
                      refine wpO_nil ?_
                      refine wpL_nil (then_normal ?_)
                      exact ⟨(decide (q494.High < r485)), Option.some.inj hj492, (FrD.pick (FrD.pick (FrD.pick (FrD.pick (FrD.pick (FrD.pick (FrD.pick hf.none hf rfl) hf rfl) hf rfl) hf rfl) hf rfl) hf rfl) hf rfl), hs⟩
                    · have hj492 := bif_f hj492 hb493
                      refine sNo hf rfl rfl rfl (congrArg (fun b => some (Value.bool b)) hb493) rfl rfl rfl ?_; clear hf; intro a hf
                      refine sNo hf rfl rfl rfl (congrArg (fun b => some (Value.bool b)) hb493) rfl rfl rfl ?_; clear hf; intro a hf
                      refine sNo hf rfl rfl rfl (congrArg (fun b => some (Value.bool b)) hb493) rfl rfl rfl ?_; clear hf; intro a hf
                      refine sNo hf rfl rfl rfl (congrArg (fun b => some (Value.bool b)) hb493) rfl rfl rfl ?_; clear hf; intro a hf
                      refine sNo hf rfl rfl rfl (congrArg (fun b => some (Value.bool b)) hb493) rfl rfl rfl ?_; clear hf; intro a hf
                      refine sNo hf rfl rfl rfl (congrArg (fun b => some (Value.bool b)) hb493) rfl rfl rfl ?_; clear hf; intro a hf
                      refine sNo hf rfl rfl rfl (congrArg (fun b => some (Value.bool b)) hb493) rfl rfl rfl ?_; clear hf; intro a hf
                      refine sY hf hs rfl rfl rfl (Y_pickF rfl (congrArg (fun b => some (Value.bool b)) hb493) rfl) ?_; clear hf; intro a hf
                      refine wpO_nil ?_
                      refine wpL_nil (then_normal ?_)
                      exact ⟨false, Option.some.inj hj492, (FrD.pick (FrD.pick (FrD.pick (FrD.pick (FrD.pick (FrD.pick (FrD.pick hf.none hf rfl) hf rfl) hf rfl) hf rfl) hf rfl) hf rfl) hf rfl), hs⟩
                  · rintro a w ⟨b490, hr_, hf, hs⟩
                    subst hr_
                    try dsimp only at hm473
                    refine wpL_cond hf rfl (fun hb496 => ?_) (fun hb496 => ?_)
                    · have hm473 := bif_t hm473 hb496
                      refine wpL_seq ?_
                      refine wpL_region ?_
                      refine sY hf hs rfl rfl rfl (Y_move rfl rfl) ?_; clear hf; intro a hf
                      refine sY hf hs rfl rfl rfl (Y_move rfl rfl) ?_; clear hf; intro a hf
                      refine sY hf hs rfl rfl rfl (Y_move rfl rfl) ?_; clear hf; intro a hf
                      obtain ⟨r497, hc498, hm473⟩ := bind_some hm473
                      refine sCall hf rfl rfl rfl rfl (cap := []) rfl rfl en66 (spec_HeaviestPath_ok F r5 A7 n8 c9 hn10 x260 x442 _ _ hc498 (hs.rdM (i := 0) rfl)) ?_; clear hf
                      rintro _ w ⟨A499, n500, c501, rfl, hn502, hs1⟩ a hf
                      have hs : St [] W w [.mat A7 n8 c9 23 2 vs11 r5, .mat A14 n15 c16 23 2 vs18 r12.1, .row A499 n500 c501 2 1 (ints r497.1)] := hs.join hs1
                      clear hs1
                      refine sY hf hs rfl rfl rfl (Y_extract rfl rfl rfl) ?_; clear hf; intro a hf
                      refine sY hf hs rfl rfl rfl (Y_extract rfl rfl rfl) ?_; clear hf; intro a hf
                      refine sY hf hs rfl rfl rfl (Y_assign rfl rfl) ?_; clear hf; intro a hf
                      refine sY hf hs rfl rfl rfl (Y_assign rfl rfl) ?_; clear hf; intro a hf
                      refine wpO_nil ?_
                      obtain rfl := Option.some.inj hm473
                      try dsimp only at hm382
                      obtain rfl := Option.some.inj hm382
                      try dsimp only at hm
                      obtain rfl := Option.some.inj hm
                      refine wpL_ret (Qb_ret (Ql_ret (Qb_ret (Qb_ret (Ql_ret (Qb_ret (ret_tmp2 rfl hf rfl rfl ?_)))))))
                      exact ⟨_, rfl, A499, n500, c501, rfl, hn502, hs.sel [2] (by decide)⟩
                    · have hm473 := bif_f hm473 hb496
                      refine wpL_skip ?_
                      refine wpL_nil (Qb_normal ?_)
                      refine wpL_region ?_
                      refine sY hf hs rfl rfl rfl (Y_move rfl rfl) ?_; clear hf; intro a hf
                      refine sY hf hs rfl rfl rfl (Y_add rfl rfl rfl) ?_; clear hf; intro a hf
                      refine sY hf hs rfl rfl rfl (Y_assign rfl rfl) ?_; clear hf; intro a hf
                      refine wpO_nil ?_
                      refine wpL_nil (Ql_normal ?_)
                      exact ⟨(IntKind.i64.wrap (x442 + 1)), hm473, (FrD.pick (FrD.pick (FrD.pick (FrD.pick (FrD.pick (FrD.pick hf.none hf rfl) hf rfl) hf rfl) hf rfl) hf rfl) hf rfl), hs⟩
                · have hm473 := bif_f hm473 hb475
                  refine wpL_exit (Ql_exit (Qb_exit ?_))
                  exact ⟨Option.some.inj hm473, (FrD.pick (FrD.pick (FrD.pick (FrD.pick (FrD.pick hf.none hf rfl) hf rfl) hf rfl) hf rfl) hf rfl), hs⟩
            · rintro a w ⟨hr_, hf, hs⟩
              subst hr_
              try dsimp only at hm382
              refine wpL_nil (Qb_normal ?_)
              refine wpL_region ?_
              refine sY hf hs rfl rfl rfl (Y_move rfl rfl) ?_; clear hf; intro a hf
              refine sY hf hs rfl rfl rfl (Y_add rfl rfl rfl) ?_; clear hf; intro a hf
              refine sY hf hs rfl rfl rfl (Y_assign rfl rfl) ?_; clear hf; intro a hf
              refine wpO_nil ?_
              refine wpL_nil (Ql_normal ?_)
              exact ⟨(IntKind.i64.wrap (x260 + 1)), hm382, (FrD.pick (FrD.pick (FrD.pick (FrD.pick (FrD.pick hf.none hf rfl) hf rfl) hf rfl) hf rfl) hf rfl), hs⟩
          · have hm382 := bif_f hm382 hb384
            refine wpL_exit (Ql_exit (Qb_exit ?_))
            exact ⟨Option.some.inj hm382, hf.none, hs.sel [] (by decide)⟩
      · rintro a w ⟨hr_, hf, hs⟩
        subst hr_
        try dsimp only at hm
        refine wpL_seq ?_
        refine wpL_region ?_
        refine sY hf hs rfl rfl rfl (Y_assign rfl rfl) ?_; clear hf; intro a hf
        refine sY hf hs rfl rfl rfl (Y_assign rfl rfl) ?_; clear hf; intro a hf
        refine wpO_nil ?_
        have hs : St [] W _ [.row none 0 0 2 1 (ints ([] : List Int))] := hs.addNil 2 1
        obtain rfl := Option.some.inj hm
        refine wpL_ret (ret_tmp2 rfl hf rfl rfl ?_)
        exact ⟨_, rfl, none, 0, 0, rfl, rfl, hs⟩

set_option maxRecDepth 100000 in
theorem impl_within_ok (F : Nat) (p0_n : Int) (p1_low : Int) (p2_high : Int) (r : Bool) (W : World) (hm : impl_within F p0_n p1_low p2_high = some r) :
    Calls Try.prog 85 [.int .i64 p0_n, .int .i64 p1_low, .int .i64 p2_high].toArray W fun e w' => ∃ v, e = .returned v ∧ v = .bool r ∧ St [] W w' [] := by
  unfold impl_within at hm
  refine Calls.enter (N := 15) Try.func85 rfl rfl rfl (fun a hf => ?_)
  have hs := St.start W
  obtain ⟨w, hw_⟩ : ∃ w, w = W := ⟨W, rfl⟩
  clear hw_ w
  refine wpL_seq ?_
  refine wpL_region ?_
  refine sY hf hs rfl rfl rfl (Y_assign rfl rfl) ?_; clear hf; intro a hf
  refine wpO_nil ?_
  refine wpL_seq ?_
  obtain ⟨r3, hj4, hm⟩ := bind_some hm
  refine wpL_cut (fun a w => ∃ b2 : Bool, b2 = r3 ∧ Fr a 15 [(6, .bool b2)] ∧ St [] W w []) ?_ ?_
  · refine wpL_region ?_
    refine sY hf hs rfl rfl rfl (Y_move rfl rfl) ?_; clear hf; intro a hf
    refine sY hf hs rfl rfl rfl (Y_move rfl rfl) ?_; clear hf; intro a hf
    refine sY hf hs rfl rfl rfl (Y_geq rfl rfl rfl) ?_; clear hf; intro a hf
    refine sY hf hs rfl rfl rfl (Y_move rfl rfl) ?_; clear hf; intro a hf
    refine bsplit (decide (p1_low ≤ p0_n)) (fun hb5 => ?_) (fun hb5 => ?_)
    · have hj4 := bif_t hj4 hb5
      refine sYg hf hs rfl rfl rfl (congrArg (fun b => some (Value.bool b)) hb5) rfl rfl rfl (Y_move rfl rfl) ?_; clear hf; intro a hf
      refine sYg hf hs rfl rfl rfl (congrArg (fun b => some (Value.bool b)) hb5) rfl rfl rfl (Y_move rfl rfl) ?_; clear hf; intro a hf
      refine sYg hf hs rfl rfl rfl (congrArg (fun b => some (Value.bool b)) hb5) rfl rfl rfl (Y_leq rfl rfl rfl) ?_; clear hf; intro a hf
      refine sY hf hs rfl rfl rfl (Y_pickT rfl (congrArg (fun b => some (Value.bool b)) hb5) rfl) ?_; clear hf; intro a hf
      refine sY hf hs rfl rfl rfl (Y_assign rfl rfl) ?_; clear hf; intro a hf
      refine wpO_nil ?_
      refine wpL_nil (then_normal ?_)
      exact ⟨(decide (p0_n ≤ p2_high)), Option.some.inj hj4, (FrD.pick hf.none hf rfl), hs⟩
    · have hj4 := bif_f hj4 hb5
      refine sNo hf rfl rfl rfl (congrArg (fun b => some (Value.bool b)) hb5) rfl rfl rfl ?_; clear hf; intro a hf
      refine sNo hf rfl rfl rfl (congrArg (fun b => some (Value.bool b)) hb5) rfl rfl rfl ?_; clear hf; intro a hf
      refine sNo hf rfl rfl rfl (congrArg (fun b => some (Value.bool b)) hb5) rfl rfl rfl ?_; clear hf; intro a hf
      refine sY hf hs rfl rfl rfl (Y_pickF rfl (congrArg (fun b => some (Value.bool b)) hb5) rfl) ?_; clear hf; intro a hf
      refine sY hf hs rfl rfl rfl (Y_assign rfl rfl) ?_; clear hf; intro a hf
      refine wpO_nil ?_
      refine wpL_nil (then_normal ?_)
      exact ⟨false, Option.some.inj hj4, (FrD.pick hf.none hf rfl), hs⟩
  · rintro a w ⟨b2, hr_, hf, hs⟩
    subst hr_
    try dsimp only at hm
    obtain rfl := Option.some.inj hm
    refine wpL_ret (ret_tmp rfl hf rfl ?_)
    exact ⟨_, rfl, rfl, hs⟩

set_option maxRecDepth 100000 in
theorem impl_isFinite_ok (F : Nat) (p0_n : Int) (r : Bool) (W : World) (hm : impl_isFinite F p0_n = some r) :
    Calls Try.prog 125 [.int .i64 p0_n].toArray W fun e w' => ∃ v, e = .returned v ∧ v = .bool r ∧ St [] W w' [] := by
  unfold impl_isFinite at hm
  refine Calls.enter (N := 5) Try.func125 rfl rfl rfl (fun a hf => ?_)
  have hs := St.start W
  obtain ⟨w, hw_⟩ : ∃ w, w = W := ⟨W, rfl⟩
  clear hw_ w
  refine wpL_seq ?_
  refine wpL_region ?_
  refine sY hf hs rfl rfl rfl (Y_assign rfl rfl) ?_; clear hf; intro a hf
  refine wpO_nil ?_
  refine wpL_seq ?_
  refine wpL_region ?_
  refine sY hf hs rfl rfl rfl (Y_move rfl rfl) ?_; clear hf; intro a hf
  obtain ⟨r1, hc2, hm⟩ := bind_some hm
  refine sCall hf rfl rfl rfl rfl (cap := []) rfl rfl en85 (impl_within_ok F p0_n (-1000000) 1000000 _ _ hc2) ?_; clear hf
  rintro _ w ⟨rfl, hs1⟩ a hf
  have hs : St [] W w [] := hs.ext hs1.below
  clear hs1
  refine sY hf hs rfl rfl rfl (Y_assign rfl rfl) ?_; clear hf; intro a hf
  refine wpO_nil ?_
  obtain rfl := Option.some.inj hm
  refine wpL_ret (ret_tmp rfl hf rfl ?_)
  exact ⟨_, rfl, rfl, hs⟩

set_option maxRecDepth 100000 in
theorem impl_IsTask_c1_ok (F : Nat) (p0_b : GBond) (b_z0 : Nat) (z0 : Int) (r : Bool) (W : World) (hm : impl_IsTask_c1 F p0_b z0 = some r) (h_z0 : PB W b_z0 2 [.int .i64 z0]) :
    Calls Try.prog 124 [.agg #[.int .i64 p0_b.From, .int .i64 p0_b.To, .int .i64 p0_b.Least], .pointer (some ⟨b_z0, 0, none⟩)].toArray W fun e w' => ∃ v, e = .returned v ∧ v = .bool r ∧ St [] W w' [] := by
  unfold impl_IsTask_c1 at hm
  refine Calls.enter (N := 22) Try.func124 rfl rfl rfl (fun a hf => ?_)
  have hs := St.start W
  obtain ⟨w, hw_⟩ : ∃ w, w = W := ⟨W, rfl⟩
  clear hw_ w
  refine wpL_seq ?_
  refine wpL_region ?_
  refine sBox hf hs rfl rfl rfl rfl rfl (cs := [.int .i64 p0_b.From, .int .i64 p0_b.To, .int .i64 p0_b.Least]) rfl ?_; clear hf hs; intro a w b1 hs hf
  have hs : St [] W w [.blk b1 91 [.int .i64 p0_b.From, .int .i64 p0_b.To, .int .i64 p0_b.Least]] := hs
  refine sY hf hs rfl rfl rfl (Y_assign rfl rfl) ?_; clear hf; intro a hf
  refine wpO_nil ?_
  refine wpL_seq ?_
  obtain ⟨r11, hj12, hm⟩ := bind_some hm
  refine wpL_cut (fun a w => ∃ b10 : Bool, b10 = r11 ∧ Fr a 22 [(3, .bool b10)] ∧ St [] W w []) ?_ ?_
  · refine wpL_region ?_
    refine sY hf hs rfl rfl rfl (Y_fieldAddr rfl rfl fo91_0) ?_; clear hf; intro a hf
    refine sY hf hs rfl rfl rfl (Y_load_blk rfl rfl (i := 0) rfl rfl ag2) ?_; clear hf; intro a hf
    refine sY hf hs rfl rfl rfl (Y_load_pb rfl rfl h_z0 rfl ag2) ?_; clear hf; intro a hf
    obtain ⟨r13, hc14, hj12⟩ := bind_some hj12
    refine sCall hf rfl rfl rfl rfl (cap := []) rfl rfl en85 (impl_within_ok F p0_b.From 0 z0 _ _ hc14) ?_; clear hf
    rintro _ w ⟨rfl, hs1⟩ a hf
    have hs : St [] W w [.blk b1 91 [.int .i64 p0_b.From, .int .i64 p0_b.To, .int .i64 p0_b.Least]] := hs.ext hs1.below
    clear hs1
    refine sY hf hs rfl rfl rfl (Y_not rfl rfl) ?_; clear hf; intro a hf
    refine sY hf hs rfl rfl rfl (Y_move rfl rfl) ?_; clear hf; intro a hf
    refine bsplit (!r13) (fun hb15 => ?_) (fun hb15 => ?_)
    · have hj12 := bif_t hj12 hb15
      refine sNo hf rfl rfl rfl (congrArg (fun b => some (Value.bool b)) hb15) rfl rfl rfl ?_; clear hf; intro a hf
      refine sNo hf rfl rfl rfl (congrArg (fun b => some (Value.bool b)) hb15) rfl rfl rfl ?_; clear hf; intro a hf
      refine sNo hf rfl rfl rfl (congrArg (fun b => some (Value.bool b)) hb15) rfl rfl rfl ?_; clear hf; intro a hf
      refine sNo hf rfl rfl rfl (congrArg (fun b => some (Value.bool b)) hb15) rfl rfl rfl ?_; clear hf; intro a hf
      refine sNo hf rfl rfl rfl (congrArg (fun b => some (Value.bool b)) hb15) rfl rfl rfl ?_; clear hf; intro a hf
      refine sY hf hs rfl rfl rfl (Y_pickT rfl (congrArg (fun b => some (Value.bool b)) hb15) rfl) ?_; clear hf; intro a hf
      refine sY hf hs rfl rfl rfl (Y_move rfl rfl) ?_; clear hf; intro a hf
      refine sNo hf rfl rfl rfl rfl rfl rfl rfl ?_; clear hf; intro a hf
      refine sNo hf rfl rfl rfl rfl rfl rfl rfl ?_; clear hf; intro a hf
      refine sNo hf rfl rfl rfl rfl rfl rfl rfl ?_; clear hf; intro a hf
      refine sNo hf rfl rfl rfl rfl rfl rfl rfl ?_; clear hf; intro a hf
      refine sY hf hs rfl rfl rfl (Y_pickT rfl rfl rfl) ?_; clear hf; intro a hf
      refine sY hf hs rfl rfl rfl (Y_assign rfl rfl) ?_; clear hf; intro a hf
      refine wpO_nil ?_
      refine wpL_nil (then_normal ?_)
      exact ⟨true, Option.some.inj hj12, (FrD.pick hf.none hf rfl), hs.sel [] (by decide)⟩
    · have hj12 := bif_f hj12 hb15
      refine sYg hf hs rfl rfl rfl (congrArg (fun b => some (Value.bool b)) hb15) rfl rfl rfl (Y_fieldAddr rfl rfl fo91_1) ?_; clear hf; intro a hf
      refine sYg hf hs rfl rfl rfl (congrArg (fun b => some (Value.bool b)) hb15) rfl rfl rfl (Y_load_blk rfl rfl (i := 0) rfl rfl ag2) ?_; clear hf; intro a hf
      refine sYg hf hs rfl rfl rfl (congrArg (fun b => some (Value.bool b)) hb15) rfl rfl rfl (Y_load_pb rfl rfl h_z0 rfl ag2) ?_; clear hf; intro a hf
      obtain ⟨r16, hc17, hj12⟩ := bind_some hj12
      refine sCallg hf rfl rfl rfl (congrArg (fun b => some (Value.bool b)) hb15) rfl rfl rfl rfl (cap := []) rfl rfl en85 (impl_within_ok F p0_b.To 0 z0 _ _ hc17) ?_; clear hf
      rintro _ w ⟨rfl, hs1⟩ a hf
      have hs : St [] W w [.blk b1 91 [.int .i64 p0_b.From, .int .i64 p0_b.To, .int .i64 p0_b.Least]] := hs.ext hs1.below
      clear hs1
      refine sYg hf hs rfl rfl rfl (congrArg (fun b => some (Value.bool b)) hb15) rfl rfl rfl (Y_not rfl rfl) ?_; clear hf; intro a hf
      refine sY hf hs rfl rfl rfl (Y_pickF rfl (congrArg (fun b => some (Value.bool b)) hb15) rfl) ?_; clear hf; intro a hf
      refine sY hf hs rfl rfl rfl (Y_move rfl rfl) ?_; clear hf; intro a hf
      refine bsplit (!r16) (fun hb18 => ?_) (fun hb18 => ?_)
      · have hj12 := bif_t hj12 hb18
        refine sNo hf rfl rfl rfl (congrArg (fun b => some (Value.bool b)) hb18) rfl rfl rfl ?_; clear hf; intro a hf
        refine sNo hf rfl rfl rfl (congrArg (fun b => some (Value.bool b)) hb18) rfl rfl rfl ?_; clear hf; intro a hf
        refine sNo hf rfl rfl rfl (congrArg (fun b => some (Value.bool b)) hb18) rfl rfl rfl ?_; clear hf; intro a hf
        refine sNo hf rfl rfl rfl (congrArg (fun b => some (Value.bool b)) hb18) rfl rfl rfl ?_; clear hf; intro a hf
        refine sY hf hs rfl rfl rfl (Y_pickT rfl (congrArg (fun b => some (Value.bool b)) hb18) rfl) ?_; clear hf; intro a hf
        refine sY hf hs rfl rfl rfl (Y_assign rfl rfl) ?_; clear hf; intro a hf
        refine wpO_nil ?_
        refine wpL_nil (then_normal ?_)
        exact ⟨true, Option.some.inj hj12, (FrD.pick hf.none hf rfl), hs.sel [] (by decide)⟩
      · have hj12 := bif_f hj12 hb18
        refine sYg hf hs rfl rfl rfl (congrArg (fun b => some (Value.bool b)) hb18) rfl rfl rfl (Y_fieldAddr rfl rfl fo91_2) ?_; clear hf; intro a hf
        refine sYg hf hs rfl rfl rfl (congrArg (fun b => some (Value.bool b)) hb18) rfl rfl rfl (Y_load_blk rfl rfl (i := 0) rfl rfl ag2) ?_; clear hf; intro a hf
        obtain ⟨r19, hc20, hj12⟩ := bind_some hj12
        refine sCallg hf rfl rfl rfl (congrArg (fun b => some (Value.bool b)) hb18) rfl rfl rfl rfl (cap := []) rfl rfl en125 (impl_isFinite_ok F p0_b.Least _ _ hc20) ?_; clear hf
        rintro _ w ⟨rfl, hs1⟩ a hf
        have hs : St [] W w [.blk b1 91 [.int .i64 p0_b.From, .int .i64 p0_b.To, .int .i64 p0_b.Least]] := hs.ext hs1.below
        clear hs1
        refine sYg hf hs rfl rfl rfl (congrArg (fun b => some (Value.bool b)) hb18) rfl rfl rfl (Y_not rfl rfl) ?_; clear hf; intro a hf
        refine sY hf hs rfl rfl rfl (Y_pickF rfl (congrArg (fun b => some (Value.bool b)) hb18) rfl) ?_; clear hf; intro a hf
        refine sY hf hs rfl rfl rfl (Y_assign rfl rfl) ?_; clear hf; intro a hf
        refine wpO_nil ?_
        refine wpL_nil (then_normal ?_)
        exact ⟨(!r19), Option.some.inj hj12, (FrD.pick hf.none hf rfl), hs.sel [] (by decide)⟩
  · rintro a w ⟨b10, hr_, hf, hs⟩
    subst hr_
    try dsimp only at hm
    obtain rfl := Option.some.inj hm
    refine wpL_ret (ret_tmp rfl hf rfl ?_)
    exact ⟨_, rfl, rfl, hs⟩

set_option maxRecDepth 100000 in
theorem slices_IndexFunc_Bond_ok (F : Nat) (p0_s : List GBond) (A_p0_s_1 : Option Addr) (n_p0_s_1 c_p0_s_1 : Nat) (hn_p0_s_1 : n_p0_s_1 = p0_s.length) (m_p1_f : GBond → Option Bool) (f_p1_f : FuncId) (k_p1_f : List Value) (r : Int) (W : World) (hm : slices_IndexFunc_Bond F p0_s m_p1_f = some r) (h_p0_s_1 : Rd W A_p0_s_1 ((recs GBond.cells) p0_s)) (h_p1_f : ∀ (x0 : GBond) (r : Bool) (w : World), m_p1_f x0 = some r → Below W.heap.size W w → Calls Try.prog f_p1_f (([.agg #[.int .i64 x0.From, .int .i64 x0.To, .int .i64 x0.Least]] : List Value) ++ k_p1_f).toArray w fun e w' => ∃ v, e = .returned v ∧ v = .bool r ∧ St [] w w' []) (e_p1_f : En Try.prog f_p1_f) :
    Calls Try.prog 167 [.slice A_p0_s_1 n_p0_s_1 c_p0_s_1, .func (.func f_p1_f) #[] k_p1_f.toArray].toArray W fun e w' => ∃ v, e = .returned v ∧ v = .int .i64 r ∧ St [] W w' [] := by
  subst hn_p0_s_1
  unfold slices_IndexFunc_Bond at hm
  refine Calls.enter (N := 19) Try.func167 rfl rfl rfl (fun a hf => ?_)
  have hs := St.start W
  obtain ⟨w, hw_⟩ : ∃ w, w = W := ⟨W, rfl⟩
  clear hw_ w
  refine wpL_seq ?_
  refine wpL_region ?_
  refine sY hf hs rfl rfl rfl (Y_assign rfl rfl) ?_; clear hf; intro a hf
  refine wpO_nil ?_
  refine wpL_seq ?_
  refine wpL_seq ?_
  refine wpL_region ?_
  refine sY hf hs rfl rfl rfl (Y_move rfl rfl) ?_; clear hf; intro a hf
  refine sY hf hs rfl rfl rfl (Y_lenH rfl rfl el41 rfl) ?_; clear hf; intro a hf
  refine sY hf hs rfl rfl rfl (Y_move rfl rfl) ?_; clear hf; intro a hf
  refine wpO_nil ?_
  obtain ⟨r21, hl22, hm⟩ := bind_some hm
  refine wpL_block (fun a w => Sum.inr () = r21 ∧ Fr a 19 [] ∧ St [] W w []) ?_ ?_
  · refine wpL_loop (fun n a w => ∃ x14 : Int, slices_IndexFunc_Bond_L1 F p0_s m_p1_f n x14 = some r21 ∧ Fr a 19 [(0, .slice A_p0_s_1 p0_s.length c_p0_s_1), (1, .func (.func f_p1_f) #[] k_p1_f.toArray), (7, .int .i64 (p0_s.length : Int)), (8, .int .i64 x14)] ∧ St [] W w []) F ?_ ?_ ?_
    · exact ⟨0, hl22, (FrD.pick (FrD.pick (FrD.pick (FrD.pick hf.none hf rfl) hf rfl) hf rfl) hf rfl), hs⟩
    · rintro a w ⟨x14, h0_, -, -⟩; simp [slices_IndexFunc_Bond_L1] at h0_
    · rintro n24 a w ⟨x14, hm23, hf, hs⟩
      rw [slices_IndexFunc_Bond_L1] at hm23
      refine wpL_seq ?_
      refine wpL_region ?_
      refine sY hf hs rfl rfl rfl (Y_lss rfl rfl rfl) ?_; clear hf; intro a hf
      refine wpO_nil ?_
      refine wpL_seq ?_
      refine wpL_cond hf rfl (fun hb25 => ?_) (fun hb25 => ?_)
      · have hm23 := bif_t hm23 hb25
        refine wpL_skip ?_
        refine wpL_seq ?_
        refine wpL_block0 ?_
        refine wpL_seq ?_
        refine wpL_region ?_
        refine sY hf hs rfl rfl rfl (Y_move rfl rfl) ?_; clear hf; intro a hf
        refine sY hf hs rfl rfl rfl (Y_assign rfl rfl) ?_; clear hf; intro a hf
        refine wpO_nil ?_
        refine wpL_seq ?_
        refine wpL_region ?_
        refine sY hf hs rfl rfl rfl (Y_move rfl rfl) ?_; clear hf; intro a hf
        refine sY hf hs rfl rfl rfl (Y_move rfl rfl) ?_; clear hf; intro a hf
        refine sY hf hs rfl rfl rfl (Y_move rfl rfl) ?_; clear hf; intro a hf
        obtain ⟨q26, hi27, hm23⟩ := bind_some hm23
        obtain ⟨hi27a, hi27b, hi27q⟩ := idx_some hi27
        refine sY hf hs rfl rfl rfl (Y_index rfl rfl rfl el41 ti91 (Rd.isAt (h_p0_s_1.at hs) (recs_at (s := 3) GBond.len hi27q (j := 0) rfl)) hi27a hi27b) ?_; clear hf; intro a hf
        refine sY hf hs rfl rfl rfl (Y_load_rdS rfl rfl (us := [.int .i64 q26.From, .int .i64 q26.To, .int .i64 q26.Least]) (fun w hs => h_p0_s_1.at hs) (fun j u hj => recs_at (s := 3) GBond.len hi27q hj) (Nat.succ_pos _) ag91 ti91 rfl) ?_; clear hf; intro a hf
        obtain ⟨r28, hc29, hm23⟩ := bind_some hm23
        refine sCall hf rfl rfl rfl rfl (cap := k_p1_f) rfl rfl e_p1_f (h_p1_f q26 _ _ hc29 hs.below) ?_; clear hf; rintro _ w ⟨rfl, hs1⟩ a hf; have hs := hs.ext hs1.below; clear hs1
        refine wpO_nil ?_
        refine wpL_cond hf rfl (fun hb30 => ?_) (fun hb30 => ?_)
        · have hm23 := bif_t hm23 hb30
          refine wpL_seq ?_
          refine wpL_region ?_
          refine sY hf hs rfl rfl rfl (Y_move rfl rfl) ?_; clear hf; intro a hf
          refine sY hf hs rfl rfl rfl (Y_assign rfl rfl) ?_; clear hf; intro a hf
          refine wpO_nil ?_
          obtain rfl := Option.some.inj hm23
          try dsimp only at hm
          obtain rfl := Option.some.inj hm
          refine wpL_ret (Qb_ret (Ql_ret (Qb_ret (ret_tmp rfl hf rfl ?_))))
          exact ⟨_, rfl, rfl, hs⟩
        · have hm23 := bif_f hm23 hb30
          refine wpL_skip ?_
          refine wpL_nil (Qb_normal ?_)
          refine wpL_region ?_
          refine sY hf hs rfl rfl rfl (Y_add rfl rfl rfl) ?_; clear hf; intro a hf
          refine sY hf hs rfl rfl rfl (Y_move rfl rfl) ?_; clear hf; intro a hf
          refine wpO_nil ?_
          refine wpL_nil (Ql_normal ?_)
          exact ⟨(IntKind.i64.wrap (x14 + 1)), hm23, (FrD.pick (FrD.pick (FrD.pick (FrD.pick hf.none hf rfl) hf rfl) hf rfl) hf rfl), hs⟩
      · have hm23 := bif_f hm23 hb25
        refine wpL_exit (Ql_exit (Qb_exit ?_))
        exact ⟨Option.some.inj hm23, hf.none, hs⟩
  · rintro a w ⟨hr_, hf, hs⟩
    subst hr_
    try dsimp only at hm
    refine wpL_seq ?_
    refine wpL_region ?_
    refine sY hf hs rfl rfl rfl (Y_assign rfl rfl) ?_; clear hf; intro a hf
    refine wpO_nil ?_
    obtain rfl := Option.some.inj hm
    refine wpL_ret (ret_tmp rfl hf rfl ?_)
    exact ⟨_, rfl, rfl, hs⟩

set_option maxRecDepth 100000 in
theorem slices_ContainsFunc_Bond_ok (F : Nat) (p0_s : List GBond) (A_p0_s_1 : Option Addr) (n_p0_s_1 c_p0_s_1 : Nat) (hn_p0_s_1 : n_p0_s_1 = p0_s.length) (m_p1_f : GBond → Option Bool) (f_p1_f : FuncId) (k_p1_f : List Value) (r : Bool) (W : World) (hm : slices_ContainsFunc_Bond F p0_s m_p1_f = some r) (h_p0_s_1 : Rd W A_p0_s_1 ((recs GBond.cells) p0_s)) (h_p1_f : ∀ (x0 : GBond) (r : Bool) (w : World), m_p1_f x0 = some r → Below W.heap.size W w → Calls Try.prog f_p1_f (([.agg #[.int .i64 x0.From, .int .i64 x0.To, .int .i64 x0.Least]] : List Value) ++ k_p1_f).toArray w fun e w' => ∃ v, e = .returned v ∧ v = .bool r ∧ St [] w w' []) (e_p1_f : En Try.prog f_p1_f) :
    Calls Try.prog 123 [.slice A_p0_s_1 n_p0_s_1 c_p0_s_1, .func (.func f_p1_f) #[] k_p1_f.toArray].toArray W fun e w' => ∃ v, e = .returned v ∧ v = .bool r ∧ St [] W w' [] := by
  subst hn_p0_s_1
  unfold slices_ContainsFunc_Bond at hm
  refine Calls.enter (N := 9) Try.func123 rfl rfl rfl (fun a hf => ?_)
  have hs := St.start W
  obtain ⟨w, hw_⟩ : ∃ w, w = W := ⟨W, rfl⟩
  clear hw_ w
  refine wpL_seq ?_
  refine wpL_region ?_
  refine sY hf hs rfl rfl rfl (Y_assign rfl rfl) ?_; clear hf; intro a hf
  refine wpO_nil ?_
  refine wpL_seq ?_
  refine wpL_region ?_
  refine sY hf hs rfl rfl rfl (Y_move rfl rfl) ?_; clear hf; intro a hf
  refine sY hf hs rfl rfl rfl (Y_move rfl rfl) ?_; clear hf; intro a hf
  obtain ⟨r1, hc2, hm⟩ := bind_some hm
  refine sCall hf rfl rfl rfl rfl (cap := []) rfl rfl en167 (slices_IndexFunc_Bond_ok F p0_s A_p0_s_1 p0_s.length c_p0_s_1 rfl m_p1_f f_p1_f k_p1_f _ _ hc2 (h_p0_s_1.at hs) (fun x0 r w' hm_ hb => h_p1_f x0 r w' hm_ (hs.below.trans (hb.mono hs.below.size))) e_p1_f) ?_; clear hf
  rintro _ w ⟨rfl, hs1⟩ a hf
  have hs : St [] W w [] := hs.ext hs1.below
  clear hs1
  refine sY hf hs rfl rfl rfl (Y_geq rfl rfl rfl) ?_; clear hf; intro a hf
  refine sY hf hs rfl rfl rfl (Y_assign rfl rfl) ?_; clear hf; intro a hf
  refine wpO_nil ?_
  obtain rfl := Option.some.inj hm
  refine wpL_ret (ret_tmp rfl hf rfl ?_)
  exact ⟨_, rfl, rfl, hs⟩

set_option maxRecDepth 100000 in
theorem impl_IsTask_ok (F : Nat) (p0_windows : List GWindow) (A_p0_windows_1 : Option Addr) (n_p0_windows_1 c_p0_windows_1 : Nat) (hn_p0_windows_1 : n_p0_windows_1 = p0_windows.length) (p1_bonds : List GBond) (A_p1_bonds_1 : Option Addr) (n_p1_bonds_1 c_p1_bonds_1 : Nat) (hn_p1_bonds_1 : n_p1_bonds_1 = p1_bonds.length) (r : Bool) (W : World) (hm : impl_IsTask F p0_windows p1_bonds = some r) (h_p0_windows_1 : Rd W A_p0_windows_1 ((recs GWindow.cells) p0_windows)) (h_p1_bonds_1 : Rd W A_p1_bonds_1 ((recs GBond.cells) p1_bonds)) :
    Calls Try.prog 69 [.slice A_p0_windows_1 n_p0_windows_1 c_p0_windows_1, .slice A_p1_bonds_1 n_p1_bonds_1 c_p1_bonds_1].toArray W fun e w' => ∃ v, e = .returned v ∧ v = .bool r ∧ St [] W w' [] := by
  subst hn_p0_windows_1
  subst hn_p1_bonds_1
  unfold impl_IsTask at hm
  refine Calls.enter (N := 46) Try.func69 rfl rfl rfl (fun a hf => ?_)
  have hs := St.start W
  obtain ⟨w, hw_⟩ : ∃ w, w = W := ⟨W, rfl⟩
  clear hw_ w
  refine wpL_seq ?_
  refine wpL_region ?_
  refine sY hf hs rfl rfl rfl (Y_assign rfl rfl) ?_; clear hf; intro a hf
  refine wpO_nil ?_
  refine wpL_seq ?_
  refine wpL_seq ?_
  obtain ⟨r5, hj6, hm⟩ := bind_some hm
  refine wpL_cut (fun a w => ∃ b4 : Bool, b4 = r5 ∧ Fr a 46 [(0, .slice A_p0_windows_1 p0_windows.length c_p0_windows_1), (1, .slice A_p1_bonds_1 p1_bonds.length c_p1_bonds_1), (16, .bool b4)] ∧ St [] W w []) ?_ ?_
  · refine wpL_region ?_
    refine sY hf hs rfl rfl rfl (Y_move rfl rfl) ?_; clear hf; intro a hf
    refine sY hf hs rfl rfl rfl (Y_lenH rfl rfl el39 rfl) ?_; clear hf; intro a hf
    obtain ⟨r7, hc8, hj6⟩ := bind_some hj6
    refine sCall hf rfl rfl rfl rfl (cap := []) rfl rfl en85 (impl_within_ok F (p0_windows.length : Int) 1 10 _ _ hc8) ?_; clear hf
    rintro _ w ⟨rfl, hs1⟩ a hf
    have hs : St [] W w [] := hs.ext hs1.below
    clear hs1
    refine sY hf hs rfl rfl rfl (Y_not rfl rfl) ?_; clear hf; intro a hf
    refine sY hf hs rfl rfl rfl (Y_move rfl rfl) ?_; clear hf; intro a hf
    refine bsplit (!r7) (fun hb9 => ?_) (fun hb9 => ?_)
    · have hj6 := bif_t hj6 hb9
      refine sNo hf rfl rfl rfl (congrArg (fun b => some (Value.bool b)) hb9) rfl rfl rfl ?_; clear hf; intro a hf
      refine sNo hf rfl rfl rfl (congrArg (fun b => some (Value.bool b)) hb9) rfl rfl rfl ?_; clear hf; intro a hf
      refine sNo hf rfl rfl rfl (congrArg (fun b => some (Value.bool b)) hb9) rfl rfl rfl ?_; clear hf; intro a hf
      refine sY hf hs rfl rfl rfl (Y_pickT rfl (congrArg (fun b => some (Value.bool b)) hb9) rfl) ?_; clear hf; intro a hf
      refine wpO_nil ?_
      refine wpL_nil (then_normal ?_)
      exact ⟨true, Option.some.inj hj6, (FrD.pick (FrD.pick (FrD.pick hf.none hf rfl) hf rfl) hf rfl), hs⟩
    · have hj6 := bif_f hj6 hb9
      refine sYg hf hs rfl rfl rfl (congrArg (fun b => some (Value.bool b)) hb9) rfl rfl rfl (Y_move rfl rfl) ?_; clear hf; intro a hf
      refine sYg hf hs rfl rfl rfl (congrArg (fun b => some (Value.bool b)) hb9) rfl rfl rfl (Y_lenH rfl rfl el41 rfl) ?_; clear hf; intro a hf
      refine sYg hf hs rfl rfl rfl (congrArg (fun b => some (Value.bool b)) hb9) rfl rfl rfl (Y_gtr rfl rfl rfl) ?_; clear hf; intro a hf
      refine sY hf hs rfl rfl rfl (Y_pickF rfl (congrArg (fun b => some (Value.bool b)) hb9) rfl) ?_; clear hf; intro a hf
      refine wpO_nil ?_
      refine wpL_nil (then_normal ?_)
      exact ⟨(decide (30 < (p1_bonds.length : Int))), Option.some.inj hj6, (FrD.pick (FrD.pick (FrD.pick hf.none hf rfl) hf rfl) hf rfl), hs⟩
  · rintro a w ⟨b4, hr_, hf, hs⟩
    subst hr_
    try dsimp only at hm
    refine wpL_cond hf rfl (fun hb10 => ?_) (fun hb10 => ?_)
    · have hm := bif_t hm hb10
      refine wpL_seq ?_
      refine wpL_region ?_
      refine sY hf hs rfl rfl rfl (Y_assign rfl rfl) ?_; clear hf; intro a hf
      refine wpO_nil ?_
      obtain rfl := Option.some.inj hm
      refine wpL_ret (ret_tmp rfl hf rfl ?_)
      exact ⟨_, rfl, rfl, hs⟩
    · have hm := bif_f hm hb10
      refine wpL_skip ?_
      refine wpL_seq ?_
      refine wpL_seq ?_
      refine wpL_region ?_
      refine sY hf hs rfl rfl rfl (Y_move rfl rfl) ?_; clear hf; intro a hf
      refine sY hf hs rfl rfl rfl (Y_lenH rfl rfl el39 rfl) ?_; clear hf; intro a hf
      refine sY hf hs rfl rfl rfl (Y_move rfl rfl) ?_; clear hf; intro a hf
      refine wpO_nil ?_
      obtain ⟨r49, hl50, hm⟩ := bind_some hm
      refine wpL_block (fun a w => Sum.inr () = r49 ∧ Fr a 46 [(0, .slice A_p0_windows_1 p0_windows.length c_p0_windows_1), (1, .slice A_p1_bonds_1 p1_bonds.length c_p1_bonds_1)] ∧ St [] W w []) ?_ ?_
      · refine wpL_loop (fun n a w => ∃ x36 : Int, impl_IsTask_L1 F p0_windows n x36 = some r49 ∧ Fr a 46 [(0, .slice A_p0_windows_1 p0_windows.length c_p0_windows_1), (1, .slice A_p1_bonds_1 p1_bonds.length c_p1_bonds_1), (17, .slice A_p0_windows_1 p0_windows.length c_p0_windows_1), (18, .int .i64 (p0_windows.length : Int)), (19, .int .i64 x36)] ∧ St [] W w []) F ?_ ?_ ?_
        · exact ⟨0, hl50, (FrD.pick (FrD.pick (FrD.pick (FrD.pick (FrD.pick hf.none hf rfl) hf rfl) hf rfl) hf rfl) hf rfl), hs⟩
        · rintro a w ⟨x36, h0_, -, -⟩; simp [impl_IsTask_L1] at h0_
        · rintro n52 a w ⟨x36, hm51, hf, hs⟩
          rw [impl_IsTask_L1] at hm51
          refine wpL_seq ?_
          refine wpL_region ?_
          refine sY hf hs rfl rfl rfl (Y_lss rfl rfl rfl) ?_; clear hf; intro a hf
          refine wpO_nil ?_
          refine wpL_seq ?_
          refine wpL_cond hf rfl (fun hb53 => ?_) (fun hb53 => ?_)
          · have hm51 := bif_t hm51 hb53
            refine wpL_skip ?_
            refine wpL_seq ?_
            refine wpL_block0 ?_
            refine wpL_seq ?_
            refine wpL_region ?_
            obtain ⟨q54, hi55, hm51⟩ := bind_some hm51
            obtain ⟨hi55a, hi55b, hi55q⟩ := idx_some hi55
            refine sY hf hs rfl rfl rfl (Y_index rfl rfl rfl el39 ti86 (Rd.isAt (h_p0_windows_1.at hs) (recs_at (s := 2) GWindow.len hi55q (j := 0) rfl)) hi55a hi55b) ?_; clear hf; intro a hf
            refine sY hf hs rfl rfl rfl (Y_load_rdS rfl rfl (us := [.int .i64 q54.Low, .int .i64 q54.High]) (fun w hs => h_p0_windows_1.at hs) (fun j u hj => recs_at (s := 2) GWindow.len hi55q hj) (Nat.succ_pos _) ag86 ti86 rfl) ?_; clear hf; intro a hf
            refine sAlloc hf hs rfl rfl rfl rfl ti86 ?_; clear hf hs; intro a w b56 hs hf
            have hs : St [] W w [.blk b56 86 [.int .i64 0, .int .i64 0]] := hs
            refine sStore (i := 0) (us := [.int .i64 q54.Low, .int .i64 q54.High]) hf hs rfl rfl rfl rfl rfl rfl ti86 rfl rfl rfl (Nat.le_of_ble_eq_true rfl) rfl ?_; clear hs; intro w hs
            have hs : St [] W w [.blk b56 86 [.int .i64 q54.Low, .int .i64 q54.High]] := hs
            refine wpO_nil ?_
            refine wpL_seq ?_
            obtain ⟨r60, hj61, hm51⟩ := bind_some hm51
            refine wpL_cut (fun a w => ∃ b59 : Bool, b59 = r60 ∧ Fr a 46 [(0, .slice A_p0_windows_1 p0_windows.length c_p0_windows_1), (1, .slice A_p1_bonds_1 p1_bonds.length c_p1_bonds_1), (17, .slice A_p0_windows_1 p0_windows.length c_p0_windows_1), (18, .int .i64 (p0_windows.length : Int)), (19, .int .i64 x36), (37, .bool b59)] ∧ St [] W w []) ?_ ?_
            · refine wpL_region ?_
              refine sY hf hs rfl rfl rfl (Y_fieldAddr rfl rfl fo86_0) ?_; clear hf; intro a hf
              refine sY hf hs rfl rfl rfl (Y_load_blk rfl rfl (i := 0) rfl rfl ag2) ?_; clear hf; intro a hf
              refine sY hf hs rfl rfl rfl (Y_lss rfl rfl rfl) ?_; clear hf; intro a hf
              refine sY hf hs rfl rfl rfl (Y_move rfl rfl) ?_; clear hf; intro a hf
              refine bsplit (decide (q54.Low < 0)) (fun hb62 => ?_) (fun hb62 => ?_)
              · have hj61 := bif_t hj61 hb62
                refine sNo hf rfl rfl rfl (congrArg (fun b => some (Value.bool b)) hb62) rfl rfl rfl ?_; clear hf; intro a hf
                refine sNo hf rfl rfl rfl (congrArg (fun b => some (Value.bool b)) hb62) rfl rfl rfl ?_; clear hf; intro a hf
                refine sNo hf rfl rfl rfl (congrArg (fun b => some (Value.bool b)) hb62) rfl rfl rfl ?_; clear hf; intro a hf
                refine sNo hf rfl rfl rfl (congrArg (fun b => some (Value.bool b)) hb62) rfl rfl rfl ?_; clear hf; intro a hf
                refine sNo hf rfl rfl rfl (congrArg (fun b => some (Value.bool b)) hb62) rfl rfl rfl ?_; clear hf; intro a hf
                refine sY hf hs rfl rfl rfl (Y_pickT rfl (congrArg (fun b => some (Value.bool b)) hb62) rfl) ?_; clear hf; intro a hf
                refine sY hf hs rfl rfl rfl (Y_move rfl rfl) ?_; clear hf; intro a hf
                refine sNo hf rfl rfl rfl rfl rfl rfl rfl ?_; clear hf; intro a hf
                refine sNo hf rfl rfl rfl rfl rfl rfl rfl ?_; clear hf; intro a hf
                refine sNo hf rfl rfl rfl rfl rfl rfl rfl ?_; clear hf; intro a hf
                refine sY hf hs rfl rfl rfl (Y_pickT rfl rfl rfl) ?_; clear hf; intro a hf
                refine wpO_nil ?_
                refine wpL_nil (then_normal ?_)
                exact ⟨true, Option.some.inj hj61, (FrD.pick (FrD.pick (FrD.pick (FrD.pick (FrD.pick (FrD.pick hf.none hf rfl) hf rfl) hf rfl) hf rfl) hf rfl) hf rfl), hs.sel [] (by decide)⟩
              · have hj61 := bif_f hj61 hb62
                refine sYg hf hs rfl rfl rfl (congrArg (fun b => some (Value.bool b)) hb62) rfl rfl rfl (Y_fieldAddr rfl rfl fo86_0) ?_; clear hf; intro a hf
                refine sYg hf hs rfl rfl rfl (congrArg (fun b => some (Value.bool b)) hb62) rfl rfl rfl (Y_load_blk rfl rfl (i := 0) rfl rfl ag2) ?_; clear hf; intro a hf
                refine sYg hf hs rfl rfl rfl (congrArg (fun b => some (Value.bool b)) hb62) rfl rfl rfl (Y_fieldAddr rfl rfl fo86_1) ?_; clear hf; intro a hf
                refine sYg hf hs rfl rfl rfl (congrArg (fun b => some (Value.bool b)) hb62) rfl rfl rfl (Y_load_blk rfl rfl (i := 0) rfl rfl ag2) ?_; clear hf; intro a hf
                refine sYg hf hs rfl rfl rfl (congrArg (fun b => some (Value.bool b)) hb62) rfl rfl rfl (Y_gtr rfl rfl rfl) ?_; clear hf; intro a hf
                refine sY hf hs rfl rfl rfl (Y_pickF rfl (congrArg (fun b => some (Value.bool b)) hb62) rfl) ?_; clear hf; intro a hf
                refine sY hf hs rfl rfl rfl (Y_move rfl rfl) ?_; clear hf; intro a hf
                refine bsplit (decide (q54.High < q54.Low)) (fun hb63 => ?_) (fun hb63 => ?_)
                · have hj61 := bif_t hj61 hb63
                  refine sNo hf rfl rfl rfl (congrArg (fun b => some (Value.bool b)) hb63) rfl rfl rfl ?_; clear hf; intro a hf
                  refine sNo hf rfl rfl rfl (congrArg (fun b => some (Value.bool b)) hb63) rfl rfl rfl ?_; clear hf; intro a hf
                  refine sNo hf rfl rfl rfl (congrArg (fun b => some (Value.bool b)) hb63) rfl rfl rfl ?_; clear hf; intro a hf
                  refine sY hf hs rfl rfl rfl (Y_pickT rfl (congrArg (fun b => some (Value.bool b)) hb63) rfl) ?_; clear hf; intro a hf
                  refine wpO_nil ?_
                  refine wpL_nil (then_normal ?_)
                  exact ⟨true, Option.some.inj hj61, (FrD.pick (FrD.pick (FrD.pick (FrD.pick (FrD.pick (FrD.pick hf.none hf rfl) hf rfl) hf rfl) hf rfl) hf rfl) hf rfl), hs.sel [] (by decide)⟩
                · have hj61 := bif_f hj61 hb63
                  refine sYg hf hs rfl rfl rfl (congrArg (fun b => some (Value.bool b)) hb63) rfl rfl rfl (Y_fieldAddr rfl rfl fo86_1) ?_; clear hf; intro a hf
                  refine sYg hf hs rfl rfl rfl (congrArg (fun b => some (Value.bool b)) hb63) rfl rfl rfl (Y_load_blk rfl rfl (i := 0) rfl rfl ag2) ?_; clear hf; intro a hf
                  refine sYg hf hs rfl rfl rfl (congrArg (fun b => some (Value.bool b)) hb63) rfl rfl rfl (Y_gtr rfl rfl rfl) ?_; clear hf; intro a hf
                  refine sY hf hs rfl rfl rfl (Y_pickF rfl (congrArg (fun b => some (Value.bool b)) hb63) rfl) ?_; clear hf; intro a hf
                  refine wpO_nil ?_
                  refine wpL_nil (then_normal ?_)
                  exact ⟨(decide (1000000 < q54.High)), Option.some.inj hj61, (FrD.pick (FrD.pick (FrD.pick (FrD.pick (FrD.pick (FrD.pick hf.none hf rfl) hf rfl) hf rfl) hf rfl) hf rfl) hf rfl), hs.sel [] (by decide)⟩
            · rintro a w ⟨b59, hr_, hf, hs⟩
              subst hr_
              try dsimp only at hm51
              refine wpL_cond hf rfl (fun hb64 => ?_) (fun hb64 => ?_)
              · have hm51 := bif_t hm51 hb64
                refine wpL_seq ?_
                refine wpL_region ?_
                refine sY hf hs rfl rfl rfl (Y_assign rfl rfl) ?_; clear hf; intro a hf
                refine wpO_nil ?_
                obtain rfl := Option.some.inj hm51
                try dsimp only at hm
                obtain rfl := Option.some.inj hm
                refine wpL_ret (Qb_ret (Ql_ret (Qb_ret (ret_tmp rfl hf rfl ?_))))
                exact ⟨_, rfl, rfl, hs⟩
              · have hm51 := bif_f hm51 hb64
                refine wpL_skip ?_
                refine wpL_nil (Qb_normal ?_)
                refine wpL_region ?_
                refine sY hf hs rfl rfl rfl (Y_add rfl rfl rfl) ?_; clear hf; intro a hf
                refine sY hf hs rfl rfl rfl (Y_move rfl rfl) ?_; clear hf; intro a hf
                refine wpO_nil ?_
                refine wpL_nil (Ql_normal ?_)
                exact ⟨(IntKind.i64.wrap (x36 + 1)), hm51, (FrD.pick (FrD.pick (FrD.pick (FrD.pick (FrD.pick hf.none hf rfl) hf rfl) hf rfl) hf rfl) hf rfl), hs⟩
          · have hm51 := bif_f hm51 hb53
            refine wpL_exit (Ql_exit (Qb_exit ?_))
            exact ⟨Option.some.inj hm51, (FrD.pick (FrD.pick hf.none hf rfl) hf rfl), hs⟩
      · rintro a w ⟨hr_, hf, hs⟩
        subst hr_
        try dsimp only at hm
        refine wpL_seq ?_
        refine wpL_region ?_
        refine sY hf hs rfl rfl rfl (Y_move rfl rfl) ?_; clear hf; intro a hf
        refine sY hf hs rfl rfl rfl (Y_lenH rfl rfl el39 rfl) ?_; clear hf; intro a hf
        refine sY hf hs rfl rfl rfl (Y_sub rfl rfl rfl) ?_; clear hf; intro a hf
        refine sAlloc hf hs rfl rfl rfl rfl ti2 ?_; clear hf hs; intro a w b65 hs hf
        have hs : St [] W w [.blk b65 2 [.int .i64 0]] := hs
        refine sStore (i := 0) (us := [.int .i64 (IntKind.i64.wrap ((p0_windows.length : Int) - 1))]) hf hs rfl rfl rfl rfl rfl rfl ti2 rfl rfl rfl (Nat.le_of_ble_eq_true rfl) rfl ?_; clear hs; intro w hs
        have hs : St [] W w [.blk b65 2 [.int .i64 (IntKind.i64.wrap ((p0_windows.length : Int) - 1))]] := hs
        refine wpO_nil ?_
        refine wpL_seq ?_
        refine wpL_region ?_
        refine sY hf hs rfl rfl rfl (Y_move rfl rfl) ?_; clear hf; intro a hf
        refine sY hf hs rfl rfl rfl (Y_makeFunc (us := []) (vs := [.pointer (some ⟨b65, 0, none⟩)]) rfl rfl rfl) ?_; clear hf; intro a hf
        obtain ⟨r66, hc67, hm⟩ := bind_some hm
        refine sCall hf rfl rfl rfl rfl (cap := []) rfl rfl en123 (slices_ContainsFunc_Bond_ok F p1_bonds A_p1_bonds_1 p1_bonds.length c_p1_bonds_1 rfl (fun x0 => impl_IsTask_c1 F x0 (IntKind.i64.wrap ((p0_windows.length : Int) - 1))) 124 ([.pointer (some ⟨b65, 0, none⟩)]) _ _ hc67 (h_p1_bonds_1.at hs) (fun x0 r w' hm_ hb => impl_IsTask_c1_ok F x0 b65 (IntKind.i64.wrap ((p0_windows.length : Int) - 1)) r w' hm_ ((hs.pb (i := 0) rfl).below hb (Nat.le_refl _))) en124) ?_; clear hf
        rintro _ w ⟨rfl, hs1⟩ a hf
        have hs : St [] W w [.blk b65 2 [.int .i64 (IntKind.i64.wrap ((p0_windows.length : Int) - 1))]] := hs.ext hs1.below
        clear hs1
        refine sY hf hs rfl rfl rfl (Y_not rfl rfl) ?_; clear hf; intro a hf
        refine sY hf hs rfl rfl rfl (Y_assign rfl rfl) ?_; clear hf; intro a hf
        refine wpO_nil ?_
        obtain rfl := Option.some.inj hm
        refine wpL_ret (ret_tmp rfl hf rfl ?_)
        exact ⟨_, rfl, rfl, hs.sel [] (by decide)⟩

set_option maxRecDepth 100000 in
theorem impl_matrixBy_ok (F : Nat) (p0_m : Int) (p1_n : Int) (m_p2_entry : Int → Int → Option Int) (f_p2_entry : FuncId) (k_p2_entry : List Value) (r : List (List Int)) (W : World) (hm : impl_matrixBy F p0_m p1_n m_p2_entry = some r) (h_p2_entry : ∀ (x0 : Int) (x1 : Int) (r : Int) (w : World), m_p2_entry x0 x1 = some r → Below W.heap.size W w → Calls Try.prog f_p2_entry (([.int .i64 x0, .int .i64 x1] : List Value) ++ k_p2_entry).toArray w fun e w' => ∃ v, e = .returned v ∧ v = .int .i64 r ∧ St [] w w' []) (e_p2_entry : En Try.prog f_p2_entry) :
    Calls Try.prog 168 [.int .i64 p0_m, .int .i64 p1_n, .func (.func f_p2_entry) #[] k_p2_entry.toArray].toArray W fun e w' => ∃ v, e = .returned v ∧ ∃ A641, ∃ n642, ∃ c643, ∃ vs645, v = .slice A641 n642 c643 ∧ n642 = r.length ∧ St [] W w' [.mat A641 n642 c643 23 2 vs645 r] := by
  unfold impl_matrixBy at hm
  refine Calls.enter (N := 43) Try.func168 rfl rfl rfl (fun a hf => ?_)
  have hs := St.start W
  obtain ⟨w, hw_⟩ : ∃ w, w = W := ⟨W, rfl⟩
  clear hw_ w
  refine wpL_seq ?_
  refine wpL_region ?_
  refine sY hf hs rfl rfl rfl (Y_assign rfl rfl) ?_; clear hf; intro a hf
  refine wpO_nil ?_
  refine wpL_seq ?_
  refine wpL_region ?_
  refine sY hf hs rfl rfl rfl (Y_move rfl rfl) ?_; clear hf; intro a hf
  obtain ⟨ms3, hk2, hm⟩ := bind_some hm
  refine sMakeM 2 hf hs rfl rfl rfl rfl rfl hk2 el59 ti23 rfl ?_; clear hf hs; intro a w A1 vs4 hs hf
  have hs : St [] W w [.mat A1 ms3.length ms3.length 23 2 vs4 ms3] := hs
  refine sY hf hs rfl rfl rfl (Y_assign rfl rfl) ?_; clear hf; intro a hf
  refine wpO_nil ?_
  refine wpL_seq ?_
  refine wpL_seq ?_
  refine wpL_region ?_
  refine sY hf hs rfl rfl rfl (Y_move rfl rfl) ?_; clear hf; intro a hf
  refine sY hf hs rfl rfl rfl (Y_lenH rfl rfl el59 rfl) ?_; clear hf; intro a hf
  refine sY hf hs rfl rfl rfl (Y_move rfl rfl) ?_; clear hf; intro a hf
  refine wpO_nil ?_
  obtain ⟨r484, hl485, hm⟩ := bind_some hm
  refine wpL_block (fun a w => ∃ ms478 : List (List Int), ∃ A479, ∃ n480, ∃ c481, ∃ vs483, ms478 = r484 ∧ n480 = ms478.length ∧ Fr a 43 [(7, .slice A479 n480 c481)] ∧ St [] W w [.mat A479 n480 c481 23 2 vs483 ms478]) ?_ ?_
  · refine wpL_loop (fun n a w => ∃ ms318 : List (List Int), ∃ x324 : Int, ∃ A319, ∃ n320, ∃ c321, ∃ vs323, impl_matrixBy_L4 F p1_n m_p2_entry ms3 n ms318 x324 = some r484 ∧ n320 = ms318.length ∧ Fr a 43 [(1, .int .i64 p1_n), (2, .func (.func f_p2_entry) #[] k_p2_entry.toArray), (7, .slice A319 n320 c321), (13, .int .i64 (ms3.length : Int)), (14, .int .i64 x324)] ∧ St [] W w [.mat A319 n320 c321 23 2 vs323 ms318]) F ?_ ?_ ?_
    · exact ⟨ms3, 0, A1, ms3.length, ms3.length, vs4, hl485, rfl, (FrD.pick (FrD.pick (FrD.pick (FrD.pick (FrD.pick hf.none hf rfl) hf rfl) hf rfl) hf rfl) hf rfl), hs⟩
    · rintro a w ⟨ms318, x324, A319, n320, c321, vs323, h0_, -, -, -⟩; simp [impl_matrixBy_L4] at h0_
    · rintro n487 a w ⟨ms318, x324, A319, n320, c321, vs323, hm486, hn322, hf, hs⟩
      rw [impl_matrixBy_L4] at hm486
      refine wpL_seq ?_
      refine wpL_region ?_
      refine sY hf hs rfl rfl rfl (Y_lss rfl rfl rfl) ?_; clear hf; intro a hf
      refine wpO_nil ?_
      refine wpL_seq ?_
      refine wpL_cond hf rfl (fun hb488 => ?_) (fun hb488 => ?_)
      · have hm486 := bif_t hm486 hb488
        refine wpL_skip ?_
        refine wpL_seq ?_
        refine wpL_block0 ?_
        refine wpL_seq ?_
        refine wpL_region ?_
        refine sY hf hs rfl rfl rfl (Y_move rfl rfl) ?_; clear hf; intro a hf
        refine sY hf hs rfl rfl rfl (Y_assign rfl rfl) ?_; clear hf; intro a hf
        refine wpO_nil ?_
        refine wpL_seq ?_
        refine wpL_region ?_
        refine sY hf hs rfl rfl rfl (Y_move rfl rfl) ?_; clear hf; intro a hf
        refine sY hf hs rfl rfl rfl (Y_move rfl rfl) ?_; clear hf; intro a hf
        refine sY hf hs rfl rfl rfl (Y_move rfl rfl) ?_; clear hf; intro a hf
        obtain ⟨xs491, hk490, hm486⟩ := bind_some hm486
        refine sMakeL (enc := ints) hf hs rfl rfl rfl rfl rfl hk490 el23 ti2 rfl ints_made ?_; clear hf hs; intro a w A489 hs hf
        have hs : St [] W w [.mat A319 n320 c321 23 2 vs323 ms318, .row A489 xs491.length xs491.length 2 1 (ints xs491)] := hs
        obtain ⟨q492, hi493, hm486⟩ := bind_some hm486
        obtain ⟨hi493a, hi493b, hi493q⟩ := idx_some hi493
        obtain ⟨A494, c495, hv496⟩ := hs.matRow (i := 0) rfl hi493q
        refine sY hf hs rfl rfl rfl (Y_index rfl rfl rfl el59 ti23 (Rd.isAt (hs.rdV (i := 0) rfl) hv496) hi493a (ltn hn322 hi493b)) ?_; clear hf; intro a hf
        obtain ⟨ms497, hu498, hm486⟩ := bind_some hm486
        refine sStoreRowM (i := 0) (j := 1) (k := x324) hf hs rfl rfl rfl rfl rfl rfl rfl (by decide) rfl hu498 ti23 ?_; clear hs; intro w vs499 hs
        have hs : St [] W w [.mat A319 n320 c321 23 2 vs499 ms497] := hs
        refine wpO_nil ?_
        refine wpL_seq ?_
        refine wpL_region ?_
        refine sY hf hs rfl rfl rfl (Y_move rfl rfl) ?_; clear hf; intro a hf
        refine sY hf hs rfl rfl rfl (Y_move rfl rfl) ?_; clear hf; intro a hf
        obtain ⟨q500, hi501, hm486⟩ := bind_some hm486
        obtain ⟨hi501a, hi501b, hi501q⟩ := idx_some hi501
        obtain ⟨A502, c503, hv504⟩ := hs.matRow (i := 0) rfl hi501q
        refine sY hf hs rfl rfl rfl (Y_index rfl rfl rfl el59 ti23 (Rd.isAt (hs.rdV (i := 0) rfl) hv504) hi501a (ltn ((hn322).trans (upd_len hu498).symm) hi501b)) ?_; clear hf; intro a hf
        refine sY hf hs rfl rfl rfl (Y_load_rd rfl rfl (fun w hs => hs.rdV (i := 0) rfl) (at1 hv504) ag23) ?_; clear hf; intro a hf
        refine sY hf hs rfl rfl rfl (Y_lenH rfl rfl el23 rfl) ?_; clear hf; intro a hf
        refine sY hf hs rfl rfl rfl (Y_move rfl rfl) ?_; clear hf; intro a hf
        refine wpO_nil ?_
        obtain ⟨r606, hl607, hm486⟩ := bind_some hm486
        refine wpL_block (fun a w => ∃ ms604 : List (List Int), ms604 = r606 ∧ n320 = ms604.length ∧ Fr a 43 [(1, .int .i64 p1_n), (2, .func (.func f_p2_entry) #[] k_p2_entry.toArray), (7, .slice A319 n320 c321), (13, .int .i64 (ms3.length : Int)), (14, .int .i64 x324)] ∧ St [] W w [.mat A319 n320 c321 23 2 vs499 ms604]) ?_ ?_
        · refine wpL_loop (fun n a w => ∃ ms570 : List (List Int), ∃ x572 : Int, impl_matrixBy_L5 F m_p2_entry x324 q500 n ms570 x572 = some r606 ∧ n320 = ms570.length ∧ Fr a 43 [(1, .int .i64 p1_n), (2, .func (.func f_p2_entry) #[] k_p2_entry.toArray), (7, .slice A319 n320 c321), (8, .int .i64 x324), (13, .int .i64 (ms3.length : Int)), (14, .int .i64 x324), (26, .int .i64 (q500.length : Int)), (27, .int .i64 x572)] ∧ St [] W w [.mat A319 n320 c321 23 2 vs499 ms570]) F ?_ ?_ ?_
          · exact ⟨ms497, 0, hl607, ((hn322).trans (upd_len hu498).symm), (FrD.pick (FrD.pick (FrD.pick (FrD.pick (FrD.pick (FrD.pick (FrD.pick (FrD.pick hf.none hf rfl) hf rfl) hf rfl) hf rfl) hf rfl) hf rfl) hf rfl) hf rfl), hs⟩
          · rintro a w ⟨ms570, x572, h0_, -, -, -⟩; simp [impl_matrixBy_L5] at h0_
          · rintro n609 a w ⟨ms570, x572, hm608, hn571, hf, hs⟩
            rw [impl_matrixBy_L5] at hm608
            refine wpL_seq ?_
            refine wpL_region ?_
            refine sY hf hs rfl rfl rfl (Y_lss rfl rfl rfl) ?_; clear hf; intro a hf
            refine wpO_nil ?_
            refine wpL_seq ?_
            refine wpL_cond hf rfl (fun hb610 => ?_) (fun hb610 => ?_)
            · have hm608 := bif_t hm608 hb610
              refine wpL_skip ?_
              refine wpL_seq ?_
              refine wpL_block0 ?_
              refine wpL_seq ?_
              refine wpL_region ?_
              refine sY hf hs rfl rfl rfl (Y_move rfl rfl) ?_; clear hf; intro a hf
              refine sY hf hs rfl rfl rfl (Y_assign rfl rfl) ?_; clear hf; intro a hf
              refine wpO_nil ?_
              refine wpL_drawM [.mat A319 n320 c321 23 2 vs499 ms570] [10] (by kernel_rfl) hs ?_; clear hs; intro w hs
              have hs0 : St [] W w [.mat A319 n320 c321 23 2 vs499 ms570] := hs
              refine mYp (i := 0) rfl (by kernel_rfl) (by kernel_rfl) hf rfl rfl rfl (fun _ => Y_move rfl rfl) ?_; clear hf; intro a hf
              refine mYp (i := 1) rfl (by kernel_rfl) (by kernel_rfl) hf rfl rfl rfl (fun _ => Y_move rfl rfl) ?_; clear hf; intro a hf
              obtain ⟨q626, hi627, hm608⟩ := bind_some hm608
              obtain ⟨hi627a, hi627b, hi627q⟩ := idx_some hi627
              obtain ⟨A628, c629, hv630⟩ := hs.matRow (i := 0) rfl hi627q
              refine mYp (i := 2) rfl (by kernel_rfl) (by kernel_rfl) hf rfl rfl rfl (fun _ => Y_index rfl rfl rfl el59 ti23 (Rd.isAt (hs.rdV (i := 0) rfl) hv630) hi627a (ltn hn571 hi627b)) ?_; clear hf; intro a hf
              refine mY (i := 3) [[]] rfl (by kernel_rfl) (by kernel_rfl) hf hs0 rfl rfl rfl (Y_load_rd rfl rfl (fun w hs => hs.rdV (i := 0) rfl) (at1 hv630) ag23) ?_; clear hf; intro a hf
              refine mYp (i := 4) rfl (by kernel_rfl) (by kernel_rfl) hf rfl rfl rfl (fun _ => Y_move rfl rfl) ?_; clear hf; intro a hf
              refine mYp (i := 5) rfl (by kernel_rfl) (by kernel_rfl) hf rfl rfl rfl (fun _ => Y_move rfl rfl) ?_; clear hf; intro a hf
              refine mYp (i := 6) rfl (by kernel_rfl) (by kernel_rfl) hf rfl rfl rfl (fun _ => Y_move rfl rfl) ?_; clear hf; intro a hf
              refine mYp (i := 7) rfl (by kernel_rfl) (by kernel_rfl) hf rfl rfl rfl (fun _ => Y_move rfl rfl) ?_; clear hf; intro a hf
              refine mRun (i := 8) rfl (by kernel_rfl) ?_
              obtain ⟨r631, hc632, hm608⟩ := bind_some hm608
              refine sCall hf rfl rfl rfl rfl (cap := k_p2_entry) rfl rfl e_p2_entry (h_p2_entry x324 x572 _ _ hc632 hs.below) ?_; clear hf; rintro _ w ⟨rfl, hs1⟩ a hf; have hs := hs.ext hs1.below; clear hs1
              have hs0 : St [] W w [.mat A319 n320 c321 23 2 vs499 ms570] := hs
              refine wpO_nil ⟨Or.inr (fun _ => hs0), ?_⟩
              obtain ⟨q633, hi634, hm608⟩ := bind_some hm608
              obtain ⟨hi634a, hi634b, hi634q⟩ := idx_some hi634
              refine mYp (i := 9) rfl (by kernel_rfl) (by kernel_rfl) hf rfl rfl rfl (fun _ => Y_index rfl rfl rfl el23 ti2 (Rd.isAt (hs.rdRow (i := 0) rfl ⟨hi627q, hv630⟩) (at1 (ints_at hi634q))) hi634a hi634b) ?_; clear hf; intro a hf
              refine mRun (i := 10) rfl (by kernel_rfl) ?_
              obtain ⟨xs635, hu637, hm608⟩ := bind_some hm608
              obtain ⟨ms636, hu638, hm608⟩ := bind_some hm608
              refine sStoreM (i := 0) (k := x324) hf hs rfl rfl rfl rfl rfl rfl hi627q hv630 rfl hu637 hu638 ti2 ?_; clear hs; intro w hs
              obtain ⟨hq639, hv640⟩ := rowUpd hu637 hu638 hv630
              have hs : St [] W w [.mat A319 n320 c321 23 2 vs499 ms636] := hs
              refine wpO_nil ⟨Or.inl (by decide), ?_⟩
              refine mDone (by kernel_rfl) ?_
              clear hs0
              refine wpL_nil (Qb_normal ?_)
              refine wpL_region ?_
              refine sY hf hs rfl rfl rfl (Y_add rfl rfl rfl) ?_; clear hf; intro a hf
              refine sY hf hs rfl rfl rfl (Y_move rfl rfl) ?_; clear hf; intro a hf
              refine wpO_nil ?_
              refine wpL_nil (Ql_normal ?_)
              exact ⟨ms636, (IntKind.i64.wrap (x572 + 1)), hm608, ((hn571).trans (upd_len hu638).symm), (FrD.pick (FrD.pick (FrD.pick (FrD.pick (FrD.pick (FrD.pick (FrD.pick (FrD.pick hf.none hf rfl) hf rfl) hf rfl) hf rfl) hf rfl) hf rfl) hf rfl) hf rfl), hs⟩
            · have hm608 := bif_f hm608 hb610
              refine wpL_exit (Ql_exit (Qb_exit ?_))
              exact ⟨ms570, Option.some.inj hm608, hn571, (FrD.pick (FrD.pick (FrD.pick (FrD.pick (FrD.pick hf.none hf rfl) hf rfl) hf rfl) hf rfl) hf rfl), hs⟩
        · rintro a w ⟨ms604, hr_, hn605, hf, hs⟩
          subst hr_
          try dsimp only at hm486
          refine wpL_nil (Qb_normal ?_)
          refine wpL_region ?_
          refine sY hf hs rfl rfl rfl (Y_add rfl rfl rfl) ?_; clear hf; intro a hf
          refine sY hf hs rfl rfl rfl (Y_move rfl rfl) ?_; clear hf; intro a hf
          refine wpO_nil ?_
          refine wpL_nil (Ql_normal ?_)
          exact ⟨ms604, (IntKind.i64.wrap (x324 + 1)), A319, n320, c321, vs499, hm486, hn605, (FrD.pick (FrD.pick (FrD.pick (FrD.pick (FrD.pick hf.none hf rfl) hf rfl) hf rfl) hf rfl) hf rfl), hs⟩
      · have hm486 := bif_f hm486 hb488
        refine wpL_exit (Ql_exit (Qb_exit ?_))
        exact ⟨ms318, A319, n320, c321, vs323, Option.some.inj hm486, hn322, (FrD.pick hf.none hf rfl), hs⟩
  · rintro a w ⟨ms478, A479, n480, c481, vs483, hr_, hn482, hf, hs⟩
    subst hr_
    try dsimp only at hm
    refine wpL_seq ?_
    refine wpL_region ?_
    refine sY hf hs rfl rfl rfl (Y_move rfl rfl) ?_; clear hf; intro a hf
    refine sY hf hs rfl rfl rfl (Y_assign rfl rfl) ?_; clear hf; intro a hf
    refine wpO_nil ?_
    obtain rfl := Option.some.inj hm
    refine wpL_ret (ret_tmp rfl hf rfl ?_)
    exact ⟨_, rfl, A479, n480, c481, vs483, rfl, hn482, hs⟩

set_option maxRecDepth 100000 in
theorem impl_bottomMatrix_c1_ok (F : Nat) (p0 : Int) (p1 : Int) (r : Int) (W : World) (hm : impl_bottomMatrix_c1 F p0 p1 = some r) :
    Calls Try.prog 169 [.int .i64 p0, .int .i64 p1].toArray W fun e w' => ∃ v, e = .returned v ∧ v = .int .i64 r ∧ St [] W w' [] := by
  unfold impl_bottomMatrix_c1 at hm
  refine Calls.enter (N := 5) Try.func169 rfl rfl rfl (fun a hf => ?_)
  have hs := St.start W
  obtain ⟨w, hw_⟩ : ∃ w, w = W := ⟨W, rfl⟩
  clear hw_ w
  refine wpL_seq ?_
  refine wpL_region ?_
  refine sY hf hs rfl rfl rfl (Y_assign rfl rfl) ?_; clear hf; intro a hf
  refine wpO_nil ?_
  refine wpL_seq ?_
  refine wpL_region ?_
  refine sY hf hs rfl rfl rfl (Y_assign rfl rfl) ?_; clear hf; intro a hf
  refine wpO_nil ?_
  obtain rfl := Option.some.inj hm
  refine wpL_ret (ret_tmp rfl hf rfl ?_)
  exact ⟨_, rfl, rfl, hs⟩

set_option maxRecDepth 100000 in
theorem impl_bottomMatrix_ok (F : Nat) (p0_m : Int) (p1_n : Int) (r : List (List Int)) (W : World) (hm : impl_bottomMatrix F p0_m p1_n = some r) :
    Calls Try.prog 126 [.int .i64 p0_m, .int .i64 p1_n].toArray W fun e w' => ∃ v, e = .returned v ∧ ∃ A8, ∃ n9, ∃ c10, ∃ vs12, v = .slice A8 n9 c10 ∧ n9 = r.length ∧ St [] W w' [.mat A8 n9 c10 23 2 vs12 r] := by
  unfold impl_bottomMatrix at hm
  refine Calls.enter (N := 8) Try.func126 rfl rfl rfl (fun a hf => ?_)
  have hs := St.start W
  obtain ⟨w, hw_⟩ : ∃ w, w = W := ⟨W, rfl⟩
  clear hw_ w
  refine wpL_seq ?_
  refine wpL_region ?_
  refine sY hf hs rfl rfl rfl (Y_assign rfl rfl) ?_; clear hf; intro a hf
  refine wpO_nil ?_
  refine wpL_seq ?_
  refine wpL_region ?_
  refine sY hf hs rfl rfl rfl (Y_move rfl rfl) ?_; clear hf; intro a hf
  refine sY hf hs rfl rfl rfl (Y_move rfl rfl) ?_; clear hf; intro a hf
  obtain ⟨r1, hc2, hm⟩ := bind_some hm
  refine sCall hf rfl rfl rfl rfl (cap := []) rfl rfl en168 (impl_matrixBy_ok F p0_m p1_n (fun x0 x1 => impl_bottomMatrix_c1 F x0 x1) 169 [] _ _ hc2 (fun x0 x1 r w' hm_ hb => impl_bottomMatrix_c1_ok F x0 x1 r w' hm_ ) en169) ?_; clear hf
  rintro _ w ⟨A3, n4, c5, vs7, rfl, hn6, hs1⟩ a hf
  have hs : St [] W w [.mat A3 n4 c5 23 2 vs7 r1] := hs.join hs1
  clear hs1
  refine sY hf hs rfl rfl rfl (Y_assign rfl rfl) ?_; clear hf; intro a hf
  refine wpO_nil ?_
  obtain rfl := Option.some.inj hm
  refine wpL_ret (ret_tmp rfl hf rfl ?_)
  exact ⟨_, rfl, A3, n4, c5, vs7, rfl, hn6, hs⟩

set_option maxRecDepth 100000 in
theorem impl_bondMatrix_ok (F : Nat) (p0_windows : List GWindow) (A_p0_windows_1 : Option Addr) (n_p0_windows_1 c_p0_windows_1 : Nat) (hn_p0_windows_1 : n_p0_windows_1 = p0_windows.length) (p1_bonds : List GBond) (A_p1_bonds_1 : Option Addr) (n_p1_bonds_1 c_p1_bonds_1 : Nat) (hn_p1_bonds_1 : n_p1_bonds_1 = p1_bonds.length) (r : List (List Int)) (W : World) (hm : impl_bondMatrix F p0_windows p1_bonds = some r) (_h_p0_windows_1 : Rd W A_p0_windows_1 ((recs GWindow.cells) p0_windows)) (h_p1_bonds_1 : Rd W A_p1_bonds_1 ((recs GBond.cells) p1_bonds)) :
    Calls Try.prog 70 [.slice A_p0_windows_1 n_p0_windows_1 c_p0_windows_1, .slice A_p1_bonds_1 n_p1_bonds_1 c_p1_bonds_1].toArray W fun e w' => ∃ v, e = .returned v ∧ ∃ A116, ∃ n117, ∃ c118, ∃ vs120, v = .slice A116 n117 c118 ∧ n117 = r.length ∧ St [] W w' [.mat A116 n117 c118 23 2 vs120 r] := by
  subst hn_p0_windows_1
  subst hn_p1_bonds_1
  unfold impl_bondMatrix at hm
  refine Calls.enter (N := 41) Try.func70 rfl rfl rfl (fun a hf => ?_)
  have hs := St.start W
  obtain ⟨w, hw_⟩ : ∃ w, w = W := ⟨W, rfl⟩
  clear hw_ w
  refine wpL_seq ?_
  refine wpL_region ?_
  refine sY hf hs rfl rfl rfl (Y_assign rfl rfl) ?_; clear hf; intro a hf
  refine wpO_nil ?_
  refine wpL_seq ?_
  refine wpL_region ?_
  refine sY hf hs rfl rfl rfl (Y_move rfl rfl) ?_; clear hf; intro a hf
  refine sY hf hs rfl rfl rfl (Y_lenH rfl rfl el39 rfl) ?_; clear hf; intro a hf
  refine sY hf hs rfl rfl rfl (Y_move rfl rfl) ?_; clear hf; intro a hf
  refine sY hf hs rfl rfl rfl (Y_lenH rfl rfl el39 rfl) ?_; clear hf; intro a hf
  obtain ⟨r1, hc2, hm⟩ := bind_some hm
  refine sCall hf rfl rfl rfl rfl (cap := []) rfl rfl en126 (impl_bottomMatrix_ok F (p0_windows.length : Int) (p0_windows.length : Int) _ _ hc2) ?_; clear hf
  rintro _ w ⟨A3, n4, c5, vs7, rfl, hn6, hs1⟩ a hf
  have hs : St [] W w [.mat A3 n4 c5 23 2 vs7 r1] := hs.join hs1
  clear hs1
  refine sY hf hs rfl rfl rfl (Y_assign rfl rfl) ?_; clear hf; intro a hf
  refine wpO_nil ?_
  refine wpL_seq ?_
  refine wpL_seq ?_
  refine wpL_region ?_
  refine sY hf hs rfl rfl rfl (Y_move rfl rfl) ?_; clear hf; intro a hf
  refine sY hf hs rfl rfl rfl (Y_lenH rfl rfl el41 rfl) ?_; clear hf; intro a hf
  refine sY hf hs rfl rfl rfl (Y_move rfl rfl) ?_; clear hf; intro a hf
  refine wpO_nil ?_
  obtain ⟨r88, hl89, hm⟩ := bind_some hm
  refine wpL_block (fun a w => ∃ ms86 : List (List Int), ms86 = r88 ∧ n4 = ms86.length ∧ Fr a 41 [(5, .slice A3 n4 c5)] ∧ St [] W w [.mat A3 n4 c5 23 2 vs7 ms86]) ?_ ?_
  · refine wpL_loop (fun n a w => ∃ ms59 : List (List Int), ∃ x61 : Int, impl_bondMatrix_L1 F p1_bonds n ms59 x61 = some r88 ∧ n4 = ms59.length ∧ Fr a 41 [(5, .slice A3 n4 c5), (13, .slice A_p1_bonds_1 p1_bonds.length c_p1_bonds_1), (14, .int .i64 (p1_bonds.length : Int)), (15, .int .i64 x61)] ∧ St [] W w [.mat A3 n4 c5 23 2 vs7 ms59]) F ?_ ?_ ?_
    · exact ⟨r1, 0, hl89, hn6, (FrD.pick (FrD.pick (FrD.pick (FrD.pick hf.none hf rfl) hf rfl) hf rfl) hf rfl), hs⟩
    · rintro a w ⟨ms59, x61, h0_, -, -, -⟩; simp [impl_bondMatrix_L1] at h0_
    · rintro n91 a w ⟨ms59, x61, hm90, hn60, hf, hs⟩
      rw [impl_bondMatrix_L1] at hm90
      refine wpL_seq ?_
      refine wpL_region ?_
      refine sY hf hs rfl rfl rfl (Y_lss rfl rfl rfl) ?_; clear hf; intro a hf
      refine wpO_nil ?_
      refine wpL_seq ?_
      refine wpL_cond hf rfl (fun hb92 => ?_) (fun hb92 => ?_)
      · have hm90 := bif_t hm90 hb92
        refine wpL_skip ?_
        refine wpL_seq ?_
        refine wpL_block0 ?_
        refine wpL_seq ?_
        refine wpL_region ?_
        obtain ⟨q93, hi94, hm90⟩ := bind_some hm90
        obtain ⟨hi94a, hi94b, hi94q⟩ := idx_some hi94
        refine sY hf hs rfl rfl rfl (Y_index rfl rfl rfl el41 ti91 (Rd.isAt (h_p1_bonds_1.at hs) (recs_at (s := 3) GBond.len hi94q (j := 0) rfl)) hi94a hi94b) ?_; clear hf; intro a hf
        refine sY hf hs rfl rfl rfl (Y_load_rdS rfl rfl (us := [.int .i64 q93.From, .int .i64 q93.To, .int .i64 q93.Least]) (fun w hs => h_p1_bonds_1.at hs) (fun j u hj => recs_at (s := 3) GBond.len hi94q hj) (Nat.succ_pos _) ag91 ti91 rfl) ?_; clear hf; intro a hf
        refine sAlloc hf hs rfl rfl rfl rfl ti91 ?_; clear hf hs; intro a w b95 hs hf
        have hs : St [] W w [.mat A3 n4 c5 23 2 vs7 ms59, .blk b95 91 [.int .i64 0, .int .i64 0, .int .i64 0]] := hs
        refine sStore (i := 1) (us := [.int .i64 q93.From, .int .i64 q93.To, .int .i64 q93.Least]) hf hs rfl rfl rfl rfl rfl rfl ti91 rfl rfl rfl (Nat.le_of_ble_eq_true rfl) rfl ?_; clear hs; intro w hs
        have hs : St [] W w [.mat A3 n4 c5 23 2 vs7 ms59, .blk b95 91 [.int .i64 q93.From, .int .i64 q93.To, .int .i64 q93.Least]] := hs
        refine wpO_nil ?_
        refine wpL_drawM [.mat A3 n4 c5 23 2 vs7 ms59, .blk b95 91 [.int .i64 q93.From, .int .i64 q93.To, .int .i64 q93.Least]] [20] (by kernel_rfl) hs ?_; clear hs; intro w hs
        have hs0 : St [] W w [.mat A3 n4 c5 23 2 vs7 ms59, .blk b95 91 [.int .i64 q93.From, .int .i64 q93.To, .int .i64 q93.Least]] := hs
        refine mYp (i := 0) rfl (by kernel_rfl) (by kernel_rfl) hf rfl rfl rfl (fun _ => Y_move rfl rfl) ?_; clear hf; intro a hf
        refine mYp (i := 1) rfl (by kernel_rfl) (by kernel_rfl) hf rfl rfl rfl (fun _ => Y_fieldAddr rfl rfl fo91_1) ?_; clear hf; intro a hf
        refine mY (i := 2) [[]] rfl (by kernel_rfl) (by kernel_rfl) hf hs0 rfl rfl rfl (Y_load_blk rfl rfl (i := 1) rfl rfl ag2) ?_; clear hf; intro a hf
        obtain ⟨q96, hi97, hm90⟩ := bind_some hm90
        obtain ⟨hi97a, hi97b, hi97q⟩ := idx_some hi97
        obtain ⟨A98, c99, hv100⟩ := hs.matRow (i := 0) rfl hi97q
        refine mYp (i := 3) rfl (by kernel_rfl) (by kernel_rfl) hf rfl rfl rfl (fun _ => Y_index rfl rfl rfl el59 ti23 (Rd.isAt (hs.rdV (i := 0) rfl) hv100) hi97a (ltn hn60 hi97b)) ?_; clear hf; intro a hf
        refine mY (i := 4) [[]] rfl (by kernel_rfl) (by kernel_rfl) hf hs0 rfl rfl rfl (Y_load_rd rfl rfl (fun w hs => hs.rdV (i := 0) rfl) (at1 hv100) ag23) ?_; clear hf; intro a hf
        refine mYp (i := 5) rfl (by kernel_rfl) (by kernel_rfl) hf rfl rfl rfl (fun _ => Y_fieldAddr rfl rfl fo91_0) ?_; clear hf; intro a hf
        refine mY (i := 6) [[]] rfl (by kernel_rfl) (by kernel_rfl) hf hs0 rfl rfl rfl (Y_load_blk rfl rfl (i := 1) rfl rfl ag2) ?_; clear hf; intro a hf
        refine mYp (i := 7) rfl (by kernel_rfl) (by kernel_rfl) hf rfl rfl rfl (fun _ => Y_move rfl rfl) ?_; clear hf; intro a hf
        refine mYp (i := 8) rfl (by kernel_rfl) (by kernel_rfl) hf rfl rfl rfl (fun _ => Y_fieldAddr rfl rfl fo91_1) ?_; clear hf; intro a hf
        refine mY (i := 9) [[]] rfl (by kernel_rfl) (by kernel_rfl) hf hs0 rfl rfl rfl (Y_load_blk rfl rfl (i := 1) rfl rfl ag2) ?_; clear hf; intro a hf
        obtain ⟨q101, hi102, hm90⟩ := bind_some hm90
        obtain ⟨hi102a, hi102b, hi102q⟩ := idx_some hi102
        obtain ⟨A103, c104, hv105⟩ := hs.matRow (i := 0) rfl hi102q
        refine mYp (i := 10) rfl (by kernel_rfl) (by kernel_rfl) hf rfl rfl rfl (fun _ => Y_index rfl rfl rfl el59 ti23 (Rd.isAt (hs.rdV (i := 0) rfl) hv105) hi102a (ltn hn60 hi102b)) ?_; clear hf; intro a hf
        refine mY (i := 11) [[]] rfl (by kernel_rfl) (by kernel_rfl) hf hs0 rfl rfl rfl (Y_load_rd rfl rfl (fun w hs => hs.rdV (i := 0) rfl) (at1 hv105) ag23) ?_; clear hf; intro a hf
        refine mYp (i := 12) rfl (by kernel_rfl) (by kernel_rfl) hf rfl rfl rfl (fun _ => Y_fieldAddr rfl rfl fo91_0) ?_; clear hf; intro a hf
        refine mY (i := 13) [[]] rfl (by kernel_rfl) (by kernel_rfl) hf hs0 rfl rfl rfl (Y_load_blk rfl rfl (i := 1) rfl rfl ag2) ?_; clear hf; intro a hf
        obtain ⟨q106, hi107, hm90⟩ := bind_some hm90
        obtain ⟨hi107a, hi107b, hi107q⟩ := idx_some hi107
        refine mYp (i := 14) rfl (by kernel_rfl) (by kernel_rfl) hf rfl rfl rfl (fun _ => Y_index rfl rfl rfl el23 ti2 (Rd.isAt (hs.rdRow (i := 0) rfl ⟨hi102q, hv105⟩) (at1 (ints_at hi107q))) hi107a hi107b) ?_; clear hf; intro a hf
        refine mY (i := 15) [[]] rfl (by kernel_rfl) (by kernel_rfl) hf hs0 rfl rfl rfl (Y_load_rd rfl rfl (fun w hs => hs.rdRow (i := 0) rfl ⟨hi102q, hv105⟩) (at1 (ints_at hi107q)) ag2) ?_; clear hf; intro a hf
        refine mYp (i := 16) rfl (by kernel_rfl) (by kernel_rfl) hf rfl rfl rfl (fun _ => Y_fieldAddr rfl rfl fo91_2) ?_; clear hf; intro a hf
        refine mY (i := 17) [[]] rfl (by kernel_rfl) (by kernel_rfl) hf hs0 rfl rfl rfl (Y_load_blk rfl rfl (i := 1) rfl rfl ag2) ?_; clear hf; intro a hf
        refine mYp (i := 18) rfl (by kernel_rfl) (by kernel_rfl) hf rfl rfl rfl (fun _ => Y_max rfl rfl rfl) ?_; clear hf; intro a hf
        obtain ⟨q108, hi109, hm90⟩ := bind_some hm90
        obtain ⟨hi109a, hi109b, hi109q⟩ := idx_some hi109
        refine mYp (i := 19) rfl (by kernel_rfl) (by kernel_rfl) hf rfl rfl rfl (fun _ => Y_index rfl rfl rfl el23 ti2 (Rd.isAt (hs.rdRow (i := 0) rfl ⟨hi97q, hv100⟩) (at1 (ints_at hi109q))) hi109a hi109b) ?_; clear hf; intro a hf
        refine mRun (i := 20) rfl (by kernel_rfl) ?_
        obtain ⟨xs110, hu112, hm90⟩ := bind_some hm90
        obtain ⟨ms111, hu113, hm90⟩ := bind_some hm90
        refine sStoreM (i := 0) (k := q93.To) hf hs rfl rfl rfl rfl rfl rfl hi97q hv100 rfl hu112 hu113 ti2 ?_; clear hs; intro w hs
        obtain ⟨hq114, hv115⟩ := rowUpd hu112 hu113 hv100
        have hs : St [] W w [.mat A3 n4 c5 23 2 vs7 ms111, .blk b95 91 [.int .i64 q93.From, .int .i64 q93.To, .int .i64 q93.Least]] := hs
        refine wpO_nil ⟨Or.inl (by decide), ?_⟩
        refine mDone (by kernel_rfl) ?_
        clear hs0
        refine wpL_nil (Qb_normal ?_)
        refine wpL_region ?_
        refine sY hf hs rfl rfl rfl (Y_add rfl rfl rfl) ?_; clear hf; intro a hf
        refine sY hf hs rfl rfl rfl (Y_move rfl rfl) ?_; clear hf; intro a hf
        refine wpO_nil ?_
        refine wpL_nil (Ql_normal ?_)
        exact ⟨ms111, (IntKind.i64.wrap (x61 + 1)), hm90, ((hn60).trans (upd_len hu113).symm), (FrD.pick (FrD.pick (FrD.pick (FrD.pick hf.none hf rfl) hf rfl) hf rfl) hf rfl), hs.sel [0] (by decide)⟩
      · have hm90 := bif_f hm90 hb92
        refine wpL_exit (Ql_exit (Qb_exit ?_))
        exact ⟨ms59, Option.some.inj hm90, hn60, (FrD.pick hf.none hf rfl), hs⟩
  · rintro a w ⟨ms86, hr_, hn87, hf, hs⟩
    subst hr_
    try dsimp only at hm
    refine wpL_seq ?_
    refine wpL_region ?_
    refine sY hf hs rfl rfl rfl (Y_move rfl rfl) ?_; clear hf; intro a hf
    refine sY hf hs rfl rfl rfl (Y_assign rfl rfl) ?_; clear hf; intro a hf
    refine wpO_nil ?_
    obtain rfl := Option.some.inj hm
    refine wpL_ret (ret_tmp rfl hf rfl ?_)
    exact ⟨_, rfl, A3, n4, c5, vs7, rfl, hn87, hs⟩

set_option maxRecDepth 100000 in
theorem impl_unitMatrix_c1_ok (F : Nat) (p0_i : Int) (p1_j : Int) (r : Int) (W : World) (hm : impl_unitMatrix_c1 F p0_i p1_j = some r) :
    Calls Try.prog 171 [.int .i64 p0_i, .int .i64 p1_j].toArray W fun e w' => ∃ v, e = .returned v ∧ v = .int .i64 r ∧ St [] W w' [] := by
  unfold impl_unitMatrix_c1 at hm
  refine Calls.enter (N := 8) Try.func171 rfl rfl rfl (fun a hf => ?_)
  have hs := St.start W
  obtain ⟨w, hw_⟩ : ∃ w, w = W := ⟨W, rfl⟩
  clear hw_ w
  refine wpL_seq ?_
  refine wpL_region ?_
  refine sY hf hs rfl rfl rfl (Y_assign rfl rfl) ?_; clear hf; intro a hf
  refine wpO_nil ?_
  refine wpL_seq ?_
  refine wpL_seq ?_
  refine wpL_region ?_
  refine sY hf hs rfl rfl rfl (Y_move rfl rfl) ?_; clear hf; intro a hf
  refine sY hf hs rfl rfl rfl (Y_move rfl rfl) ?_; clear hf; intro a hf
  refine sY hf hs rfl rfl rfl (Y_eql rfl rfl rfl) ?_; clear hf; intro a hf
  refine wpO_nil ?_
  refine wpL_cond hf rfl (fun hb1 => ?_) (fun hb1 => ?_)
  · have hm := bif_t hm hb1
    refine wpL_seq ?_
    refine wpL_region ?_
    refine sY hf hs rfl rfl rfl (Y_assign rfl rfl) ?_; clear hf; intro a hf
    refine wpO_nil ?_
    obtain rfl := Option.some.inj hm
    refine wpL_ret (ret_tmp rfl hf rfl ?_)
    exact ⟨_, rfl, rfl, hs⟩
  · have hm := bif_f hm hb1
    refine wpL_skip ?_
    refine wpL_seq ?_
    refine wpL_region ?_
    refine sY hf hs rfl rfl rfl (Y_assign rfl rfl) ?_; clear hf; intro a hf
    refine wpO_nil ?_
    obtain rfl := Option.some.inj hm
    refine wpL_ret (ret_tmp rfl hf rfl ?_)
    exact ⟨_, rfl, rfl, hs⟩

set_option maxRecDepth 100000 in
theorem impl_unitMatrix_ok (F : Nat) (p0_n : Int) (r : List (List Int)) (W : World) (hm : impl_unitMatrix F p0_n = some r) :
    Calls Try.prog 128 [.int .i64 p0_n].toArray W fun e w' => ∃ v, e = .returned v ∧ ∃ A8, ∃ n9, ∃ c10, ∃ vs12, v = .slice A8 n9 c10 ∧ n9 = r.length ∧ St [] W w' [.mat A8 n9 c10 23 2 vs12 r] := by
  unfold impl_unitMatrix at hm
  refine Calls.enter (N := 6) Try.func128 rfl rfl rfl (fun a hf => ?_)
  have hs := St.start W
  obtain ⟨w, hw_⟩ : ∃ w, w = W := ⟨W, rfl⟩
  clear hw_ w
  refine wpL_seq ?_
  refine wpL_region ?_
  refine sY hf hs rfl rfl rfl (Y_assign rfl rfl) ?_; clear hf; intro a hf
  refine wpO_nil ?_
  refine wpL_seq ?_
  refine wpL_region ?_
  refine sY hf hs rfl rfl rfl (Y_move rfl rfl) ?_; clear hf; intro a hf
  refine sY hf hs rfl rfl rfl (Y_move rfl rfl) ?_; clear hf; intro a hf
  obtain ⟨r1, hc2, hm⟩ := bind_some hm
  refine sCall hf rfl rfl rfl rfl (cap := []) rfl rfl en168 (impl_matrixBy_ok F p0_n p0_n (fun x0 x1 => impl_unitMatrix_c1 F x0 x1) 171 [] _ _ hc2 (fun x0 x1 r w' hm_ hb => impl_unitMatrix_c1_ok F x0 x1 r w' hm_ ) en171) ?_; clear hf
  rintro _ w ⟨A3, n4, c5, vs7, rfl, hn6, hs1⟩ a hf
  have hs : St [] W w [.mat A3 n4 c5 23 2 vs7 r1] := hs.join hs1
  clear hs1
  refine sY hf hs rfl rfl rfl (Y_assign rfl rfl) ?_; clear hf; intro a hf
  refine wpO_nil ?_
  obtain rfl := Option.some.inj hm
  refine wpL_ret (ret_tmp rfl hf rfl ?_)
  exact ⟨_, rfl, A3, n4, c5, vs7, rfl, hn6, hs⟩

set_option maxRecDepth 100000 in
theorem impl_addMatrices_c1_ok (F : Nat) (p0_i : Int) (p1_j : Int) (b_z0 : Nat) (z0 : List (List Int)) (A_z0_1 : Option Addr) (n_z0_1 c_z0_1 : Nat) (hn_z0_1 : n_z0_1 = z0.length) (b_z1 : Nat) (z1 : List (List Int)) (A_z1_1 : Option Addr) (n_z1_1 c_z1_1 : Nat) (hn_z1_1 : n_z1_1 = z1.length) (r : Int) (W : World) (hm : impl_addMatrices_c1 F p0_i p1_j z0 z1 = some r) (h_z0_1 : RdM W A_z0_1 z0) (h_z0 : PB W b_z0 59 [.slice A_z0_1 n_z0_1 c_z0_1]) (h_z1_1 : RdM W A_z1_1 z1) (h_z1 : PB W b_z1 59 [.slice A_z1_1 n_z1_1 c_z1_1]) :
    Calls Try.prog 170 [.int .i64 p0_i, .int .i64 p1_j, .pointer (some ⟨b_z0, 0, none⟩), .pointer (some ⟨b_z1, 0, none⟩)].toArray W fun e w' => ∃ v, e = .returned v ∧ v = .int .i64 r ∧ St [] W w' [] := by
  subst hn_z0_1
  subst hn_z1_1
  unfold impl_addMatrices_c1 at hm
  refine Calls.enter (N := 22) Try.func170 rfl rfl rfl (fun a hf => ?_)
  have hs := St.start W
  obtain ⟨w, hw_⟩ : ∃ w, w = W := ⟨W, rfl⟩
  clear hw_ w
  refine wpL_seq ?_
  refine wpL_region ?_
  refine sY hf hs rfl rfl rfl (Y_assign rfl rfl) ?_; clear hf; intro a hf
  refine wpO_nil ?_
  refine wpL_seq ?_
  refine wpL_draw (by kernel_rfl) (by kernel_rfl) hs ?_
  refine qY hf rfl rfl rfl (Y_load_pb rfl rfl h_z0 rfl ag59) ?_; clear hf; intro a hf
  refine qY hf rfl rfl rfl (Y_move rfl rfl) ?_; clear hf; intro a hf
  obtain ⟨q1, hi2, hm⟩ := bind_some hm
  obtain ⟨hi2a, hi2b, hi2q⟩ := idx_some hi2
  obtain ⟨vs3, hv4, hr5⟩ := id h_z0_1
  obtain ⟨A6, c7, hv8, hR9⟩ := hr5 _ _ hi2q
  refine qY hf rfl rfl rfl (Y_index rfl rfl rfl el59 ti23 (Rd.isAt hv4 hv8) hi2a hi2b) ?_; clear hf; intro a hf
  refine qY hf rfl rfl rfl (Y_load_rd rfl rfl (fun w hs => hv4.at hs) (at1 hv8) ag23) ?_; clear hf; intro a hf
  refine qY hf rfl rfl rfl (Y_move rfl rfl) ?_; clear hf; intro a hf
  obtain ⟨q10, hi11, hm⟩ := bind_some hm
  obtain ⟨hi11a, hi11b, hi11q⟩ := idx_some hi11
  refine qY hf rfl rfl rfl (Y_index rfl rfl rfl el23 ti2 (Rd.isAt (hR9.at hs) (at1 (ints_at hi11q))) hi11a hi11b) ?_; clear hf; intro a hf
  refine qY hf rfl rfl rfl (Y_load_rd rfl rfl (fun w hs => hR9.at hs) (at1 (ints_at hi11q)) ag2) ?_; clear hf; intro a hf
  refine qY hf rfl rfl rfl (Y_load_pb rfl rfl h_z1 rfl ag59) ?_; clear hf; intro a hf
  refine qY hf rfl rfl rfl (Y_move rfl rfl) ?_; clear hf; intro a hf
  obtain ⟨q12, hi13, hm⟩ := bind_some hm
  obtain ⟨hi13a, hi13b, hi13q⟩ := idx_some hi13
  obtain ⟨vs14, hv15, hr16⟩ := id h_z1_1
  obtain ⟨A17, c18, hv19, hR20⟩ := hr16 _ _ hi13q
  refine qY hf rfl rfl rfl (Y_index rfl rfl rfl el59 ti23 (Rd.isAt hv15 hv19) hi13a hi13b) ?_; clear hf; intro a hf
  refine qY hf rfl rfl rfl (Y_load_rd rfl rfl (fun w hs => hv15.at hs) (at1 hv19) ag23) ?_; clear hf; intro a hf
  refine qY hf rfl rfl rfl (Y_move rfl rfl) ?_; clear hf; intro a hf
  obtain ⟨q21, hi22, hm⟩ := bind_some hm
  obtain ⟨hi22a, hi22b, hi22q⟩ := idx_some hi22
  refine qY hf rfl rfl rfl (Y_index rfl rfl rfl el23 ti2 (Rd.isAt (hR20.at hs) (at1 (ints_at hi22q))) hi22a hi22b) ?_; clear hf; intro a hf
  refine qY hf rfl rfl rfl (Y_load_rd rfl rfl (fun w hs => hR20.at hs) (at1 (ints_at hi22q)) ag2) ?_; clear hf; intro a hf
  refine qY hf rfl rfl rfl (Y_max rfl rfl rfl) ?_; clear hf; intro a hf
  refine qY hf rfl rfl rfl (Y_assign rfl rfl) ?_; clear hf; intro a hf
  refine qNil ?_; clear hs; intro w hs
  obtain rfl := Option.some.inj hm
  refine wpL_ret (ret_tmp rfl hf rfl ?_)
  exact ⟨_, rfl, rfl, hs⟩

set_option maxRecDepth 100000 in
theorem impl_addMatrices_ok (F : Nat) (p0_a : List (List Int)) (A_p0_a_1 : Option Addr) (n_p0_a_1 c_p0_a_1 : Nat) (hn_p0_a_1 : n_p0_a_1 = p0_a.length) (p1_b : List (List Int)) (A_p1_b_1 : Option Addr) (n_p1_b_1 c_p1_b_1 : Nat) (hn_p1_b_1 : n_p1_b_1 = p1_b.length) (r : List (List Int)) (W : World) (hm : impl_addMatrices F p0_a p1_b = some r) (h_p0_a_1 : RdM W A_p0_a_1 p0_a) (h_p1_b_1 : RdM W A_p1_b_1 p1_b) :
    Calls Try.prog 127 [.slice A_p0_a_1 n_p0_a_1 c_p0_a_1, .slice A_p1_b_1 n_p1_b_1 c_p1_b_1].toArray W fun e w' => ∃ v, e = .returned v ∧ ∃ A19, ∃ n20, ∃ c21, ∃ vs23, v = .slice A19 n20 c21 ∧ n20 = r.length ∧ St [] W w' [.mat A19 n20 c21 23 2 vs23 r] := by
  subst hn_p0_a_1
  subst hn_p1_b_1
  unfold impl_addMatrices at hm
  refine Calls.enter (N := 13) Try.func127 rfl rfl rfl (fun a hf => ?_)
  have hs := St.start W
  obtain ⟨w, hw_⟩ : ∃ w, w = W := ⟨W, rfl⟩
  clear hw_ w
  refine wpL_seq ?_
  refine wpL_region ?_
  refine sBox hf hs rfl rfl rfl rfl rfl (cs := [.slice A_p0_a_1 p0_a.length c_p0_a_1]) rfl ?_; clear hf hs; intro a w b1 hs hf
  have hs : St [] W w [.blk b1 59 [.slice A_p0_a_1 p0_a.length c_p0_a_1]] := hs
  refine sBox hf hs rfl rfl rfl rfl rfl (cs := [.slice A_p1_b_1 p1_b.length c_p1_b_1]) rfl ?_; clear hf hs; intro a w b2 hs hf
  have hs : St [] W w [.blk b1 59 [.slice A_p0_a_1 p0_a.length c_p0_a_1], .blk b2 59 [.slice A_p1_b_1 p1_b.length c_p1_b_1]] := hs
  refine sY hf hs rfl rfl rfl (Y_assign rfl rfl) ?_; clear hf; intro a hf
  refine wpO_nil ?_
  refine wpL_seq ?_
  refine wpL_drawM [.blk b1 59 [.slice A_p0_a_1 p0_a.length c_p0_a_1], .blk b2 59 [.slice A_p1_b_1 p1_b.length c_p1_b_1]] [7] (by kernel_rfl) hs ?_; clear hs; intro w hs
  have hs0 : St [] W w [.blk b1 59 [.slice A_p0_a_1 p0_a.length c_p0_a_1], .blk b2 59 [.slice A_p1_b_1 p1_b.length c_p1_b_1]] := hs
  refine mY (i := 0) [[1]] rfl (by kernel_rfl) (by kernel_rfl) hf hs0 rfl rfl rfl (Y_load_blk rfl rfl (i := 0) rfl rfl ag59) ?_; clear hf; intro a hf
  refine mYp (i := 1) rfl (by kernel_rfl) (by kernel_rfl) hf rfl rfl rfl (fun _ => Y_lenH rfl rfl el59 rfl) ?_; clear hf; intro a hf
  refine mY (i := 2) [[3, 4, 5]] rfl (by kernel_rfl) (by kernel_rfl) hf hs0 rfl rfl rfl (Y_load_blk rfl rfl (i := 0) rfl rfl ag59) ?_; clear hf; intro a hf
  obtain ⟨q3, hi4, hm⟩ := bind_some hm
  obtain ⟨hi4a, hi4b, hi4q⟩ := idx_some hi4
  obtain ⟨vs5, hv6, hr7⟩ := id h_p0_a_1
  obtain ⟨A8, c9, hv10, hR11⟩ := hr7 _ _ hi4q
  refine mYp (i := 3) rfl (by kernel_rfl) (by kernel_rfl) hf rfl rfl rfl (fun _ => Y_index rfl rfl rfl el59 ti23 (Rd.isAt hv6 hv10) hi4a hi4b) ?_; clear hf; intro a hf
  refine mY (i := 4) [[5]] rfl (by kernel_rfl) (by kernel_rfl) hf hs0 rfl rfl rfl (Y_load_rd rfl rfl (fun w hs => hv6.at hs) (at1 hv10) ag23) ?_; clear hf; intro a hf
  refine mYp (i := 5) rfl (by kernel_rfl) (by kernel_rfl) hf rfl rfl rfl (fun _ => Y_lenH rfl rfl el23 rfl) ?_; clear hf; intro a hf
  refine mYp (i := 6) rfl (by kernel_rfl) (by kernel_rfl) hf rfl rfl rfl (fun _ => Y_makeFunc (us := []) (vs := [.pointer (some ⟨b1, 0, none⟩), .pointer (some ⟨b2, 0, none⟩)]) rfl rfl rfl) ?_; clear hf; intro a hf
  refine mRun (i := 7) rfl (by kernel_rfl) ?_
  obtain ⟨r12, hc13, hm⟩ := bind_some hm
  refine sCall hf rfl rfl rfl rfl (cap := []) rfl rfl en168 (impl_matrixBy_ok F (p0_a.length : Int) (q3.length : Int) (fun x0 x1 => impl_addMatrices_c1 F x0 x1 p0_a p1_b) 170 ([.pointer (some ⟨b1, 0, none⟩), .pointer (some ⟨b2, 0, none⟩)]) _ _ hc13 (fun x0 x1 r w' hm_ hb => impl_addMatrices_c1_ok F x0 x1 b1 p0_a A_p0_a_1 p0_a.length c_p0_a_1 rfl b2 p1_b A_p1_b_1 p1_b.length c_p1_b_1 rfl r w' hm_ ((h_p0_a_1.at hs).below hb (Nat.le_refl _)) ((hs.pb (i := 0) rfl).below hb (Nat.le_refl _)) ((h_p1_b_1.at hs).below hb (Nat.le_refl _)) ((hs.pb (i := 1) rfl).below hb (Nat.le_refl _))) en170) ?_; clear hf
  rintro _ w ⟨A14, n15, c16, vs18, rfl, hn17, hs1⟩ a hf
  have hs : St [] W w [.blk b1 59 [.slice A_p0_a_1 p0_a.length c_p0_a_1], .blk b2 59 [.slice A_p1_b_1 p1_b.length c_p1_b_1], .mat A14 n15 c16 23 2 vs18 r12] := hs.join hs1
  clear hs1
  refine wpO_nil ⟨Or.inl (by decide), ?_⟩
  refine mYp (i := 8) rfl (by kernel_rfl) (by kernel_rfl) hf rfl rfl rfl (fun _ => Y_assign rfl rfl) ?_; clear hf; intro a hf
  refine mDone (by kernel_rfl) ?_
  clear hs0
  obtain rfl := Option.some.inj hm
  refine wpL_ret (ret_tmp rfl hf rfl ?_)
  exact ⟨_, rfl, A14, n15, c16, vs18, rfl, hn17, hs.sel [2] (by decide)⟩

set_option maxRecDepth 100000 in
theorem impl_times_ok (F : Nat) (p0_a : Int) (p1_b : Int) (r : Int) (W : World) (hm : impl_times F p0_a p1_b = some r) :
    Calls Try.prog 129 [.int .i64 p0_a, .int .i64 p1_b].toArray W fun e w' => ∃ v, e = .returned v ∧ v = .int .i64 r ∧ St [] W w' [] := by
  unfold impl_times at hm
  refine Calls.enter (N := 14) Try.func129 rfl rfl rfl (fun a hf => ?_)
  have hs := St.start W
  obtain ⟨w, hw_⟩ : ∃ w, w = W := ⟨W, rfl⟩
  clear hw_ w
  refine wpL_seq ?_
  refine wpL_region ?_
  refine sY hf hs rfl rfl rfl (Y_assign rfl rfl) ?_; clear hf; intro a hf
  refine wpO_nil ?_
  refine wpL_seq ?_
  refine wpL_seq ?_
  obtain ⟨r3, hj4, hm⟩ := bind_some hm
  refine wpL_cut (fun a w => ∃ b2 : Bool, b2 = r3 ∧ Fr a 14 [(0, .int .i64 p0_a), (1, .int .i64 p1_b), (10, .bool b2)] ∧ St [] W w []) ?_ ?_
  · refine wpL_region ?_
    refine sY hf hs rfl rfl rfl (Y_move rfl rfl) ?_; clear hf; intro a hf
    refine sY hf hs rfl rfl rfl (Y_eql rfl rfl rfl) ?_; clear hf; intro a hf
    refine sY hf hs rfl rfl rfl (Y_move rfl rfl) ?_; clear hf; intro a hf
    refine bsplit (p0_a == (-1000000000000000)) (fun hb5 => ?_) (fun hb5 => ?_)
    · have hj4 := bif_t hj4 hb5
      refine sNo hf rfl rfl rfl (congrArg (fun b => some (Value.bool b)) hb5) rfl rfl rfl ?_; clear hf; intro a hf
      refine sNo hf rfl rfl rfl (congrArg (fun b => some (Value.bool b)) hb5) rfl rfl rfl ?_; clear hf; intro a hf
      refine sY hf hs rfl rfl rfl (Y_pickT rfl (congrArg (fun b => some (Value.bool b)) hb5) rfl) ?_; clear hf; intro a hf
      refine wpO_nil ?_
      refine wpL_nil (then_normal ?_)
      exact ⟨true, Option.some.inj hj4, (FrD.pick (FrD.pick (FrD.pick hf.none hf rfl) hf rfl) hf rfl), hs⟩
    · have hj4 := bif_f hj4 hb5
      refine sYg hf hs rfl rfl rfl (congrArg (fun b => some (Value.bool b)) hb5) rfl rfl rfl (Y_move rfl rfl) ?_; clear hf; intro a hf
      refine sYg hf hs rfl rfl rfl (congrArg (fun b => some (Value.bool b)) hb5) rfl rfl rfl (Y_eql rfl rfl rfl) ?_; clear hf; intro a hf
      refine sY hf hs rfl rfl rfl (Y_pickF rfl (congrArg (fun b => some (Value.bool b)) hb5) rfl) ?_; clear hf; intro a hf
      refine wpO_nil ?_
      refine wpL_nil (then_normal ?_)
      exact ⟨(p1_b == (-1000000000000000)), Option.some.inj hj4, (FrD.pick (FrD.pick (FrD.pick hf.none hf rfl) hf rfl) hf rfl), hs⟩
  · rintro a w ⟨b2, hr_, hf, hs⟩
    subst hr_
    try dsimp only at hm
    refine wpL_cond hf rfl (fun hb6 => ?_) (fun hb6 => ?_)
    · have hm := bif_t hm hb6
      refine wpL_seq ?_
      refine wpL_region ?_
      refine sY hf hs rfl rfl rfl (Y_assign rfl rfl) ?_; clear hf; intro a hf
      refine wpO_nil ?_
      obtain rfl := Option.some.inj hm
      refine wpL_ret (ret_tmp rfl hf rfl ?_)
      exact ⟨_, rfl, rfl, hs⟩
    · have hm := bif_f hm hb6
      refine wpL_skip ?_
      refine wpL_seq ?_
      refine wpL_region ?_
      refine sY hf hs rfl rfl rfl (Y_move rfl rfl) ?_; clear hf; intro a hf
      refine sY hf hs rfl rfl rfl (Y_move rfl rfl) ?_; clear hf; intro a hf
      refine sY hf hs rfl rfl rfl (Y_add rfl rfl rfl) ?_; clear hf; intro a hf
      refine sY hf hs rfl rfl rfl (Y_assign rfl rfl) ?_; clear hf; intro a hf
      refine wpO_nil ?_
      obtain rfl := Option.some.inj hm
      refine wpL_ret (ret_tmp rfl hf rfl ?_)
      exact ⟨_, rfl, rfl, hs⟩

set_option maxHeartbeats 2000000 in
set_option maxRecDepth 100000 in
theorem impl_starOf_ok (F : Nat) (p0 : List (List Int)) (A_p0_1 : Option Addr) (n_p0_1 c_p0_1 : Nat) (hn_p0_1 : n_p0_1 = p0.length) (r : List (List Int) × Bool) (W : World) (hm : impl_starOf F p0 = some r) (h_p0_1 : RdM W A_p0_1 p0) :
    Calls Try.prog 71 [.slice A_p0_1 n_p0_1 c_p0_1].toArray W fun e w' => ∃ v, e = .returned v ∧ ∃ A5035, ∃ n5036, ∃ c5037, ∃ vs5039, v = .tuple #[.slice A5035 n5036 c5037, .bool r.2] ∧ n5036 = r.1.length ∧ St [] W w' [.mat A5035 n5036 c5037 23 2 vs5039 r.1] := by
  subst hn_p0_1
  unfold impl_starOf at hm
  refine Calls.enter (N := 84) Try.func71 rfl rfl rfl (fun a hf => ?_)
  have hs := St.start W
  obtain ⟨w, hw_⟩ : ∃ w, w = W := ⟨W, rfl⟩
  clear hw_ w
  refine wpL_seq ?_
  refine wpL_region ?_
  refine sY hf hs rfl rfl rfl (Y_assign rfl rfl) ?_; clear hf; intro a hf
  refine sY hf hs rfl rfl rfl (Y_assign rfl rfl) ?_; clear hf; intro a hf
  refine wpO_nil ?_
  refine wpL_seq ?_
  refine wpL_region ?_
  refine sY hf hs rfl rfl rfl (Y_move rfl rfl) ?_; clear hf; intro a hf
  refine sY hf hs rfl rfl rfl (Y_move rfl rfl) ?_; clear hf; intro a hf
  refine sY hf hs rfl rfl rfl (Y_lenH rfl rfl el59 rfl) ?_; clear hf; intro a hf
  obtain ⟨r1, hc2, hm⟩ := bind_some hm
  refine sCall hf rfl rfl rfl rfl (cap := []) rfl rfl en128 (impl_unitMatrix_ok F (p0.length : Int) _ _ hc2) ?_; clear hf
  rintro _ w ⟨A3, n4, c5, vs7, rfl, hn6, hs1⟩ a hf
  have hs : St [] W w [.mat A3 n4 c5 23 2 vs7 r1] := hs.join hs1
  clear hs1
  obtain ⟨r8, hc9, hm⟩ := bind_some hm
  refine sCall hf rfl rfl rfl rfl (cap := []) rfl rfl en127 (impl_addMatrices_ok F p0 A_p0_1 p0.length c_p0_1 rfl r1 A3 n4 c5 hn6 _ _ hc9 (h_p0_1.at hs) (hs.rdM (i := 0) rfl)) ?_; clear hf
  rintro _ w ⟨A10, n11, c12, vs14, rfl, hn13, hs1⟩ a hf
  have hs : St [] W w [.mat A3 n4 c5 23 2 vs7 r1, .mat A10 n11 c12 23 2 vs14 r8] := hs.join hs1
  clear hs1
  refine sY hf hs rfl rfl rfl (Y_assign rfl rfl) ?_; clear hf; intro a hf
  refine wpO_nil ?_
  refine wpL_seq ?_
  refine wpL_seq ?_
  refine wpL_region ?_
  refine sY hf hs rfl rfl rfl (Y_move rfl rfl) ?_; clear hf; intro a hf
  refine sY hf hs rfl rfl rfl (Y_lenH rfl rfl el59 hn13) ?_; clear hf; intro a hf
  refine sY hf hs rfl rfl rfl (Y_move rfl rfl) ?_; clear hf; intro a hf
  refine wpO_nil ?_
  obtain ⟨r3746, hl3747, hm⟩ := bind_some hm
  refine wpL_block (fun a w => ∃ ms3744 : List (List Int), Sum.inr ms3744 = r3746 ∧ n11 = ms3744.length ∧ Fr a 84 [(4, .slice A10 n11 c12)] ∧ St [] W w [.mat A10 n11 c12 23 2 vs14 ms3744]) ?_ ?_
  · refine wpL_loop (fun n a w => ∃ ms2500 : List (List Int), ∃ x2502 : Int, impl_starOf_L16 F r8 n ms2500 x2502 = some r3746 ∧ n11 = ms2500.length ∧ Fr a 84 [(4, .slice A10 n11 c12), (15, .int .i64 (r8.length : Int)), (16, .int .i64 x2502)] ∧ St [] W w [.mat A10 n11 c12 23 2 vs14 ms2500]) F ?_ ?_ ?_
    · exact ⟨r8, 0, hl3747, hn13, (FrD.pick (FrD.pick (FrD.pick hf.none hf rfl) hf rfl) hf rfl), hs.sel [1] (by decide)⟩
    · rintro a w ⟨ms2500, x2502, h0_, -, -, -⟩; simp [impl_starOf_L16] at h0_
    · rintro n3749 a w ⟨ms2500, x2502, hm3748, hn2501, hf, hs⟩
      rw [impl_starOf_L16] at hm3748
      refine wpL_seq ?_
      refine wpL_region ?_
      refine sY hf hs rfl rfl rfl (Y_lss rfl rfl rfl) ?_; clear hf; intro a hf
      refine wpO_nil ?_
      refine wpL_seq ?_
      refine wpL_cond hf rfl (fun hb3750 => ?_) (fun hb3750 => ?_)
      · have hm3748 := bif_t hm3748 hb3750
        refine wpL_skip ?_
        refine wpL_seq ?_
        refine wpL_block0 ?_
        refine wpL_seq ?_
        refine wpL_region ?_
        refine sY hf hs rfl rfl rfl (Y_move rfl rfl) ?_; clear hf; intro a hf
        refine sY hf hs rfl rfl rfl (Y_assign rfl rfl) ?_; clear hf; intro a hf
        refine wpO_nil ?_
        refine wpL_seq ?_
        refine wpL_seq ?_
        refine wpL_region ?_
        refine sY hf hs rfl rfl rfl (Y_move rfl rfl) ?_; clear hf; intro a hf
        refine sY hf hs rfl rfl rfl (Y_move rfl rfl) ?_; clear hf; intro a hf
        obtain ⟨q3751, hi3752, hm3748⟩ := bind_some hm3748
        obtain ⟨hi3752a, hi3752b, hi3752q⟩ := idx_some hi3752
        obtain ⟨A3753, c3754, hv3755⟩ := hs.matRow (i := 0) rfl hi3752q
        refine sY hf hs rfl rfl rfl (Y_index rfl rfl rfl el59 ti23 (Rd.isAt (hs.rdV (i := 0) rfl) hv3755) hi3752a (ltn hn2501 hi3752b)) ?_; clear hf; intro a hf
        refine sY hf hs rfl rfl rfl (Y_load_rd rfl rfl (fun w hs => hs.rdV (i := 0) rfl) (at1 hv3755) ag23) ?_; clear hf; intro a hf
        refine sY hf hs rfl rfl rfl (Y_move rfl rfl) ?_; clear hf; intro a hf
        obtain ⟨q3756, hi3757, hm3748⟩ := bind_some hm3748
        obtain ⟨hi3757a, hi3757b, hi3757q⟩ := idx_some hi3757
        refine sY hf hs rfl rfl rfl (Y_index rfl rfl rfl el23 ti2 (Rd.isAt (hs.rdRow (i := 0) rfl ⟨hi3752q, hv3755⟩) (at1 (ints_at hi3757q))) hi3757a hi3757b) ?_; clear hf; intro a hf
        refine sY hf hs rfl rfl rfl (Y_load_rd rfl rfl (fun w hs => hs.rdRow (i := 0) rfl ⟨hi3752q, hv3755⟩) (at1 (ints_at hi3757q)) ag2) ?_; clear hf; intro a hf
        refine sY hf hs rfl rfl rfl (Y_gtr rfl rfl rfl) ?_; clear hf; intro a hf
        refine wpO_nil ?_
        refine wpL_cond hf rfl (fun hb3758 => ?_) (fun hb3758 => ?_)
        · have hm3748 := bif_t hm3748 hb3758
          refine wpL_seq ?_
          refine wpL_region ?_
          refine sY hf hs rfl rfl rfl (Y_assign rfl rfl) ?_; clear hf; intro a hf
          refine sY hf hs rfl rfl rfl (Y_assign rfl rfl) ?_; clear hf; intro a hf
          refine wpO_nil ?_
          have hs : St [] W _ [.mat A10 n11 c12 23 2 vs14 ms2500, .mat none 0 0 23 2 [] ([] : List (List Int))] := hs.addNilM 23 2
          obtain rfl := Option.some.inj hm3748
          try dsimp only at hm
          obtain rfl := Option.some.inj hm
          refine wpL_ret (Qb_ret (Ql_ret (Qb_ret (ret_tmp2 rfl hf rfl rfl ?_))))
          exact ⟨_, rfl, none, 0, 0, [], rfl, rfl, hs.sel [1] (by decide)⟩
        · have hm3748 := bif_f hm3748 hb3758
          refine wpL_skip ?_
          refine wpL_seq ?_
          refine wpL_region ?_
          refine sY hf hs rfl rfl rfl (Y_move rfl rfl) ?_; clear hf; intro a hf
          refine sY hf hs rfl rfl rfl (Y_lenH rfl rfl el59 hn2501) ?_; clear hf; intro a hf
          refine sY hf hs rfl rfl rfl (Y_move rfl rfl) ?_; clear hf; intro a hf
          refine wpO_nil ?_
          obtain ⟨r4683, hl4684, hm3748⟩ := bind_some hm3748
          refine wpL_block (fun a w => ∃ ms4681 : List (List Int), ms4681 = r4683 ∧ n11 = ms4681.length ∧ Fr a 84 [(4, .slice A10 n11 c12), (15, .int .i64 (r8.length : Int)), (16, .int .i64 x2502)] ∧ St [] W w [.mat A10 n11 c12 23 2 vs14 ms4681]) ?_ ?_
          · refine wpL_loop (fun n a w => ∃ ms4373 : List (List Int), ∃ x4375 : Int, impl_starOf_L20 F ms2500 x2502 n ms4373 x4375 = some r4683 ∧ n11 = ms4373.length ∧ Fr a 84 [(4, .slice A10 n11 c12), (5, .int .i64 x2502), (15, .int .i64 (r8.length : Int)), (16, .int .i64 x2502), (28, .int .i64 (ms2500.length : Int)), (29, .int .i64 x4375)] ∧ St [] W w [.mat A10 n11 c12 23 2 vs14 ms4373]) F ?_ ?_ ?_
            · exact ⟨ms2500, 0, hl4684, hn2501, (FrD.pick (FrD.pick (FrD.pick (FrD.pick (FrD.pick (FrD.pick hf.none hf rfl) hf rfl) hf rfl) hf rfl) hf rfl) hf rfl), hs⟩
            · rintro a w ⟨ms4373, x4375, h0_, -, -, -⟩; simp [impl_starOf_L20] at h0_
            · rintro n4686 a w ⟨ms4373, x4375, hm4685, hn4374, hf, hs⟩
              rw [impl_starOf_L20] at hm4685
              refine wpL_seq ?_
              refine wpL_region ?_
              refine sY hf hs rfl rfl rfl (Y_lss rfl rfl rfl) ?_; clear hf; intro a hf
              refine wpO_nil ?_
              refine wpL_seq ?_
              refine wpL_cond hf rfl (fun hb4687 => ?_) (fun hb4687 => ?_)
              · have hm4685 := bif_t hm4685 hb4687
                refine wpL_skip ?_
                refine wpL_seq ?_
                refine wpL_block0 ?_
                refine wpL_seq ?_
                refine wpL_region ?_
                refine sY hf hs rfl rfl rfl (Y_move rfl rfl) ?_; clear hf; intro a hf
                refine sY hf hs rfl rfl rfl (Y_assign rfl rfl) ?_; clear hf; intro a hf
                refine wpO_nil ?_
                refine wpL_seq ?_
                refine wpL_region ?_
                refine sY hf hs rfl rfl rfl (Y_move rfl rfl) ?_; clear hf; intro a hf
                refine sY hf hs rfl rfl rfl (Y_lenH rfl rfl el59 hn4374) ?_; clear hf; intro a hf
                refine sY hf hs rfl rfl rfl (Y_move rfl rfl) ?_; clear hf; intro a hf
                refine wpO_nil ?_
                obtain ⟨r4915, hl4916, hm4685⟩ := bind_some hm4685
                refine wpL_block (fun a w => ∃ ms4913 : List (List Int), ms4913 = r4915 ∧ n11 = ms4913.length ∧ Fr a 84 [(4, .slice A10 n11 c12), (5, .int .i64 x2502), (15, .int .i64 (r8.length : Int)), (16, .int .i64 x2502), (28, .int .i64 (ms2500.length : Int)), (29, .int .i64 x4375)] ∧ St [] W w [.mat A10 n11 c12 23 2 vs14 ms4913]) ?_ ?_
                · refine wpL_loop (fun n a w => ∃ ms4837 : List (List Int), ∃ x4839 : Int, impl_starOf_L21 F x2502 ms4373 x4375 n ms4837 x4839 = some r4915 ∧ n11 = ms4837.length ∧ Fr a 84 [(4, .slice A10 n11 c12), (5, .int .i64 x2502), (6, .int .i64 x4375), (15, .int .i64 (r8.length : Int)), (16, .int .i64 x2502), (28, .int .i64 (ms2500.length : Int)), (29, .int .i64 x4375), (33, .int .i64 (ms4373.length : Int)), (34, .int .i64 x4839)] ∧ St [] W w [.mat A10 n11 c12 23 2 vs14 ms4837]) F ?_ ?_ ?_
                  · exact ⟨ms4373, 0, hl4916, hn4374, (FrD.pick (FrD.pick (FrD.pick (FrD.pick (FrD.pick (FrD.pick (FrD.pick (FrD.pick (FrD.pick hf.none hf rfl) hf rfl) hf rfl) hf rfl) hf rfl) hf rfl) hf rfl) hf rfl) hf rfl), hs⟩
                  · rintro a w ⟨ms4837, x4839, h0_, -, -, -⟩; simp [impl_starOf_L21] at h0_
                  · rintro n4918 a w ⟨ms4837, x4839, hm4917, hn4838, hf, hs⟩
                    rw [impl_starOf_L21] at hm4917
                    refine wpL_seq ?_
                    refine wpL_region ?_
                    refine sY hf hs rfl rfl rfl (Y_lss rfl rfl rfl) ?_; clear hf; intro a hf
                    refine wpO_nil ?_
                    refine wpL_seq ?_
                    refine wpL_cond hf rfl (fun hb4919 => ?_) (fun hb4919 => ?_)
                    · have hm4917 := bif_t hm4917 hb4919
                      refine wpL_skip ?_
                      refine wpL_seq ?_
                      refine wpL_block0 ?_
                      refine wpL_seq ?_
                      refine wpL_region ?_
                      refine sY hf hs rfl rfl rfl (Y_move rfl rfl) ?_; clear hf; intro a hf
                      refine sY hf hs rfl rfl rfl (Y_assign rfl rfl) ?_; clear hf; intro a hf
                      refine wpO_nil ?_
                      refine wpL_drawM [.mat A10 n11 c12 23 2 vs14 ms4837] [29] (by kernel_rfl) hs ?_; clear hs; intro w hs
                      have hs0 : St [] W w [.mat A10 n11 c12 23 2 vs14 ms4837] := hs
                      refine mYp (i := 0) rfl (by kernel_rfl) (by kernel_rfl) hf rfl rfl rfl (fun _ => Y_move rfl rfl) ?_; clear hf; intro a hf
                      refine mYp (i := 1) rfl (by kernel_rfl) (by kernel_rfl) hf rfl rfl rfl (fun _ => Y_move rfl rfl) ?_; clear hf; intro a hf
                      obtain ⟨q4956, hi4957, hm4917⟩ := bind_some hm4917
                      obtain ⟨hi4957a, hi4957b, hi4957q⟩ := idx_some hi4957
                      obtain ⟨A4958, c4959, hv4960⟩ := hs.matRow (i := 0) rfl hi4957q
                      refine mYp (i := 2) rfl (by kernel_rfl) (by kernel_rfl) hf rfl rfl rfl (fun _ => Y_index rfl rfl rfl el59 ti23 (Rd.isAt (hs.rdV (i := 0) rfl) hv4960) hi4957a (ltn hn4838 hi4957b)) ?_; clear hf; intro a hf
                      refine mY (i := 3) [[]] rfl (by kernel_rfl) (by kernel_rfl) hf hs0 rfl rfl rfl (Y_load_rd rfl rfl (fun w hs => hs.rdV (i := 0) rfl) (at1 hv4960) ag23) ?_; clear hf; intro a hf
                      refine mYp (i := 4) rfl (by kernel_rfl) (by kernel_rfl) hf rfl rfl rfl (fun _ => Y_move rfl rfl) ?_; clear hf; intro a hf
                      refine mYp (i := 5) rfl (by kernel_rfl) (by kernel_rfl) hf rfl rfl rfl (fun _ => Y_move rfl rfl) ?_; clear hf; intro a hf
                      refine mYp (i := 6) rfl (by kernel_rfl) (by kernel_rfl) hf rfl rfl rfl (fun _ => Y_move rfl rfl) ?_; clear hf; intro a hf
                      obtain ⟨q4961, hi4962, hm4917⟩ := bind_some hm4917
                      obtain ⟨hi4962a, hi4962b, hi4962q⟩ := idx_some hi4962
                      obtain ⟨A4963, c4964, hv4965⟩ := hs.matRow (i := 0) rfl hi4962q
                      refine mYp (i := 7) rfl (by kernel_rfl) (by kernel_rfl) hf rfl rfl rfl (fun _ => Y_index rfl rfl rfl el59 ti23 (Rd.isAt (hs.rdV (i := 0) rfl) hv4965) hi4962a (ltn hn4838 hi4962b)) ?_; clear hf; intro a hf
                      refine mY (i := 8) [[]] rfl (by kernel_rfl) (by kernel_rfl) hf hs0 rfl rfl rfl (Y_load_rd rfl rfl (fun w hs => hs.rdV (i := 0) rfl) (at1 hv4965) ag23) ?_; clear hf; intro a hf
                      refine mYp (i := 9) rfl (by kernel_rfl) (by kernel_rfl) hf rfl rfl rfl (fun _ => Y_move rfl rfl) ?_; clear hf; intro a hf
                      obtain ⟨q4966, hi4967, hm4917⟩ := bind_some hm4917
                      obtain ⟨hi4967a, hi4967b, hi4967q⟩ := idx_some hi4967
                      refine mYp (i := 10) rfl (by kernel_rfl) (by kernel_rfl) hf rfl rfl rfl (fun _ => Y_index rfl rfl rfl el23 ti2 (Rd.isAt (hs.rdRow (i := 0) rfl ⟨hi4962q, hv4965⟩) (at1 (ints_at hi4967q))) hi4967a hi4967b) ?_; clear hf; intro a hf
                      refine mY (i := 11) [[]] rfl (by kernel_rfl) (by kernel_rfl) hf hs0 rfl rfl rfl (Y_load_rd rfl rfl (fun w hs => hs.rdRow (i := 0) rfl ⟨hi4962q, hv4965⟩) (at1 (ints_at hi4967q)) ag2) ?_; clear hf; intro a hf
                      refine mYp (i := 12) rfl (by kernel_rfl) (by kernel_rfl) hf rfl rfl rfl (fun _ => Y_move rfl rfl) ?_; clear hf; intro a hf
                      refine mYp (i := 13) rfl (by kernel_rfl) (by kernel_rfl) hf rfl rfl rfl (fun _ => Y_move rfl rfl) ?_; clear hf; intro a hf
                      obtain ⟨q4968, hi4969, hm4917⟩ := bind_some hm4917
                      obtain ⟨hi4969a, hi4969b, hi4969q⟩ := idx_some hi4969
                      obtain ⟨A4970, c4971, hv4972⟩ := hs.matRow (i := 0) rfl hi4969q
                      refine mYp (i := 14) rfl (by kernel_rfl) (by kernel_rfl) hf rfl rfl rfl (fun _ => Y_index rfl rfl rfl el59 ti23 (Rd.isAt (hs.rdV (i := 0) rfl) hv4972) hi4969a (ltn hn4838 hi4969b)) ?_; clear hf; intro a hf
                      refine mY (i := 15) [[]] rfl (by kernel_rfl) (by kernel_rfl) hf hs0 rfl rfl rfl (Y_load_rd rfl rfl (fun w hs => hs.rdV (i := 0) rfl) (at1 hv4972) ag23) ?_; clear hf; intro a hf
                      refine mYp (i := 16) rfl (by kernel_rfl) (by kernel_rfl) hf rfl rfl rfl (fun _ => Y_move rfl rfl) ?_; clear hf; intro a hf
                      obtain ⟨q4973, hi4974, hm4917⟩ := bind_some hm4917
                      obtain ⟨hi4974a, hi4974b, hi4974q⟩ := idx_some hi4974
                      refine mYp (i := 17) rfl (by kernel_rfl) (by kernel_rfl) hf rfl rfl rfl (fun _ => Y_index rfl rfl rfl el23 ti2 (Rd.isAt (hs.rdRow (i := 0) rfl ⟨hi4969q, hv4972⟩) (at1 (ints_at hi4974q))) hi4974a hi4974b) ?_; clear hf; intro a hf
                      refine mY (i := 18) [[]] rfl (by kernel_rfl) (by kernel_rfl) hf hs0 rfl rfl rfl (Y_load_rd rfl rfl (fun w hs => hs.rdRow (i := 0) rfl ⟨hi4969q, hv4972⟩) (at1 (ints_at hi4974q)) ag2) ?_; clear hf; intro a hf
                      refine mYp (i := 19) rfl (by kernel_rfl) (by kernel_rfl) hf rfl rfl rfl (fun _ => Y_move rfl rfl) ?_; clear hf; intro a hf
                      refine mYp (i := 20) rfl (by kernel_rfl) (by kernel_rfl) hf rfl rfl rfl (fun _ => Y_move rfl rfl) ?_; clear hf; intro a hf
                      obtain ⟨q4975, hi4976, hm4917⟩ := bind_some hm4917
                      obtain ⟨hi4976a, hi4976b, hi4976q⟩ := idx_some hi4976
                      obtain ⟨A4977, c4978, hv4979⟩ := hs.matRow (i := 0) rfl hi4976q
                      refine mYp (i := 21) rfl (by kernel_rfl) (by kernel_rfl) hf rfl rfl rfl (fun _ => Y_index rfl rfl rfl el59 ti23 (Rd.isAt (hs.rdV (i := 0) rfl) hv4979) hi4976a (ltn hn4838 hi4976b)) ?_; clear hf; intro a hf
                      refine mY (i := 22) [[]] rfl (by kernel_rfl) (by kernel_rfl) hf hs0 rfl rfl rfl (Y_load_rd rfl rfl (fun w hs => hs.rdV (i := 0) rfl) (at1 hv4979) ag23) ?_; clear hf; intro a hf
                      refine mYp (i := 23) rfl (by kernel_rfl) (by kernel_rfl) hf rfl rfl rfl (fun _ => Y_move rfl rfl) ?_; clear hf; intro a hf
                      obtain ⟨q4980, hi4981, hm4917⟩ := bind_some hm4917
                      obtain ⟨hi4981a, hi4981b, hi4981q⟩ := idx_some hi4981
                      refine mYp (i := 24) rfl (by kernel_rfl) (by kernel_rfl) hf rfl rfl rfl (fun _ => Y_index rfl rfl rfl el23 ti2 (Rd.isAt (hs.rdRow (i := 0) rfl ⟨hi4976q, hv4979⟩) (at1 (ints_at hi4981q))) hi4981a hi4981b) ?_; clear hf; intro a hf
                      refine mY (i := 25) [[]] rfl (by kernel_rfl) (by kernel_rfl) hf hs0 rfl rfl rfl (Y_load_rd rfl rfl (fun w hs => hs.rdRow (i := 0) rfl ⟨hi4976q, hv4979⟩) (at1 (ints_at hi4981q)) ag2) ?_; clear hf; intro a hf
                      refine mRun (i := 26) rfl (by kernel_rfl) ?_
                      obtain ⟨r4982, hc4983, hm4917⟩ := bind_some hm4917
                      refine sCall hf rfl rfl rfl rfl (cap := []) rfl rfl en129 (impl_times_ok F q4973 q4980 _ _ hc4983) ?_; clear hf
                      rintro _ w ⟨rfl, hs1⟩ a hf
                      have hs : St [] W w [.mat A10 n11 c12 23 2 vs14 ms4837] := hs.ext hs1.below
                      clear hs1
                      have hs0 : St [] W w [.mat A10 n11 c12 23 2 vs14 ms4837] := hs
                      refine wpO_nil ⟨Or.inr (fun _ => hs0), ?_⟩
                      refine mYp (i := 27) rfl (by kernel_rfl) (by kernel_rfl) hf rfl rfl rfl (fun _ => Y_max rfl rfl rfl) ?_; clear hf; intro a hf
                      obtain ⟨q4984, hi4985, hm4917⟩ := bind_some hm4917
                      obtain ⟨hi4985a, hi4985b, hi4985q⟩ := idx_some hi4985
                      refine mYp (i := 28) rfl (by kernel_rfl) (by kernel_rfl) hf rfl rfl rfl (fun _ => Y_index rfl rfl rfl el23 ti2 (Rd.isAt (hs.rdRow (i := 0) rfl ⟨hi4957q, hv4960⟩) (at1 (ints_at hi4985q))) hi4985a hi4985b) ?_; clear hf; intro a hf
                      refine mRun (i := 29) rfl (by kernel_rfl) ?_
                      obtain ⟨xs4986, hu4988, hm4917⟩ := bind_some hm4917
                      obtain ⟨ms4987, hu4989, hm4917⟩ := bind_some hm4917
                      refine sStoreM (i := 0) (k := x4375) hf hs rfl rfl rfl rfl rfl rfl hi4957q hv4960 rfl hu4988 hu4989 ti2 ?_; clear hs; intro w hs
                      obtain ⟨hq4990, hv4991⟩ := rowUpd hu4988 hu4989 hv4960
                      have hs : St [] W w [.mat A10 n11 c12 23 2 vs14 ms4987] := hs
                      refine wpO_nil ⟨Or.inl (by decide), ?_⟩
                      refine mDone (by kernel_rfl) ?_
                      clear hs0
                      refine wpL_nil (Qb_normal ?_)
                      refine wpL_region ?_
                      refine sY hf hs rfl rfl rfl (Y_add rfl rfl rfl) ?_; clear hf; intro a hf
                      refine sY hf hs rfl rfl rfl (Y_move rfl rfl) ?_; clear hf; intro a hf
                      refine wpO_nil ?_
                      refine wpL_nil (Ql_normal ?_)
                      exact ⟨ms4987, (IntKind.i64.wrap (x4839 + 1)), hm4917, ((hn4838).trans (upd_len hu4989).symm), (FrD.pick (FrD.pick (FrD.pick (FrD.pick (FrD.pick (FrD.pick (FrD.pick (FrD.pick (FrD.pick hf.none hf rfl) hf rfl) hf rfl) hf rfl) hf rfl) hf rfl) hf rfl) hf rfl) hf rfl), hs⟩
                    · have hm4917 := bif_f hm4917 hb4919
                      refine wpL_exit (Ql_exit (Qb_exit ?_))
                      exact ⟨ms4837, Option.some.inj hm4917, hn4838, (FrD.pick (FrD.pick (FrD.pick (FrD.pick (FrD.pick (FrD.pick hf.none hf rfl) hf rfl) hf rfl) hf rfl) hf rfl) hf rfl), hs⟩
                · rintro a w ⟨ms4913, hr_, hn4914, hf, hs⟩
                  subst hr_
                  try dsimp only at hm4685
                  refine wpL_nil (Qb_normal ?_)
                  refine wpL_region ?_
                  refine sY hf hs rfl rfl rfl (Y_add rfl rfl rfl) ?_; clear hf; intro a hf
                  refine sY hf hs rfl rfl rfl (Y_move rfl rfl) ?_; clear hf; intro a hf
                  refine wpO_nil ?_
                  refine wpL_nil (Ql_normal ?_)
                  exact ⟨ms4913, (IntKind.i64.wrap (x4375 + 1)), hm4685, hn4914, (FrD.pick (FrD.pick (FrD.pick (FrD.pick (FrD.pick (FrD.pick hf.none hf rfl) hf rfl) hf rfl) hf rfl) hf rfl) hf rfl), hs⟩
              · have hm4685 := bif_f hm4685 hb4687
                refine wpL_exit (Ql_exit (Qb_exit ?_))
                exact ⟨ms4373, Option.some.inj hm4685, hn4374, (FrD.pick (FrD.pick (FrD.pick hf.none hf rfl) hf rfl) hf rfl), hs⟩
          · rintro a w ⟨ms4681, hr_, hn4682, hf, hs⟩
            subst hr_
            try dsimp only at hm3748
            refine wpL_nil (Qb_normal ?_)
            refine wpL_region ?_
            refine sY hf hs rfl rfl rfl (Y_add rfl rfl rfl) ?_; clear hf; intro a hf
            refine sY hf hs rfl rfl rfl (Y_move rfl rfl) ?_; clear hf; intro a hf
            refine wpO_nil ?_
            refine wpL_nil (Ql_normal ?_)
            exact ⟨ms4681, (IntKind.i64.wrap (x2502 + 1)), hm3748, hn4682, (FrD.pick (FrD.pick (FrD.pick hf.none hf rfl) hf rfl) hf rfl), hs⟩
      · have hm3748 := bif_f hm3748 hb3750
        refine wpL_exit (Ql_exit (Qb_exit ?_))
        exact ⟨ms2500, Option.some.inj hm3748, hn2501, (FrD.pick hf.none hf rfl), hs⟩
  · rintro a w ⟨ms3744, hr_, hn3745, hf, hs⟩
    subst hr_
    try dsimp only at hm
    refine wpL_seq ?_
    refine wpL_seq ?_
    refine wpL_region ?_
    refine sY hf hs rfl rfl rfl (Y_move rfl rfl) ?_; clear hf; intro a hf
    refine sY hf hs rfl rfl rfl (Y_lenH rfl rfl el59 hn3745) ?_; clear hf; intro a hf
    refine sY hf hs rfl rfl rfl (Y_move rfl rfl) ?_; clear hf; intro a hf
    refine wpO_nil ?_
    obtain ⟨r5021, hl5022, hm⟩ := bind_some hm
    refine wpL_block (fun a w => Sum.inr () = r5021 ∧ Fr a 84 [(4, .slice A10 n11 c12)] ∧ St [] W w [.mat A10 n11 c12 23 2 vs14 ms3744]) ?_ ?_
    · refine wpL_loop (fun n a w => ∃ x5011 : Int, impl_starOf_L22 F ms3744 n x5011 = some r5021 ∧ Fr a 84 [(4, .slice A10 n11 c12), (70, .int .i64 (ms3744.length : Int)), (71, .int .i64 x5011)] ∧ St [] W w [.mat A10 n11 c12 23 2 vs14 ms3744]) F ?_ ?_ ?_
      · exact ⟨0, hl5022, (FrD.pick (FrD.pick (FrD.pick hf.none hf rfl) hf rfl) hf rfl), hs⟩
      · rintro a w ⟨x5011, h0_, -, -⟩; simp [impl_starOf_L22] at h0_
      · rintro n5024 a w ⟨x5011, hm5023, hf, hs⟩
        rw [impl_starOf_L22] at hm5023
        refine wpL_seq ?_
        refine wpL_region ?_
        refine sY hf hs rfl rfl rfl (Y_lss rfl rfl rfl) ?_; clear hf; intro a hf
        refine wpO_nil ?_
        refine wpL_seq ?_
        refine wpL_cond hf rfl (fun hb5025 => ?_) (fun hb5025 => ?_)
        · have hm5023 := bif_t hm5023 hb5025
          refine wpL_skip ?_
          refine wpL_seq ?_
          refine wpL_block0 ?_
          refine wpL_seq ?_
          refine wpL_region ?_
          refine sY hf hs rfl rfl rfl (Y_move rfl rfl) ?_; clear hf; intro a hf
          refine sY hf hs rfl rfl rfl (Y_assign rfl rfl) ?_; clear hf; intro a hf
          refine wpO_nil ?_
          refine wpL_seq ?_
          refine wpL_region ?_
          refine sY hf hs rfl rfl rfl (Y_move rfl rfl) ?_; clear hf; intro a hf
          refine sY hf hs rfl rfl rfl (Y_move rfl rfl) ?_; clear hf; intro a hf
          obtain ⟨q5026, hi5027, hm5023⟩ := bind_some hm5023
          obtain ⟨hi5027a, hi5027b, hi5027q⟩ := idx_some hi5027
          obtain ⟨A5028, c5029, hv5030⟩ := hs.matRow (i := 0) rfl hi5027q
          refine sY hf hs rfl rfl rfl (Y_index rfl rfl rfl el59 ti23 (Rd.isAt (hs.rdV (i := 0) rfl) hv5030) hi5027a (ltn hn3745 hi5027b)) ?_; clear hf; intro a hf
          refine sY hf hs rfl rfl rfl (Y_load_rd rfl rfl (fun w hs => hs.rdV (i := 0) rfl) (at1 hv5030) ag23) ?_; clear hf; intro a hf
          refine sY hf hs rfl rfl rfl (Y_move rfl rfl) ?_; clear hf; intro a hf
          obtain ⟨q5031, hi5032, hm5023⟩ := bind_some hm5023
          obtain ⟨hi5032a, hi5032b, hi5032q⟩ := idx_some hi5032
          refine sY hf hs rfl rfl rfl (Y_index rfl rfl rfl el23 ti2 (Rd.isAt (hs.rdRow (i := 0) rfl ⟨hi5027q, hv5030⟩) (at1 (ints_at hi5032q))) hi5032a hi5032b) ?_; clear hf; intro a hf
          refine sY hf hs rfl rfl rfl (Y_load_rd rfl rfl (fun w hs => hs.rdRow (i := 0) rfl ⟨hi5027q, hv5030⟩) (at1 (ints_at hi5032q)) ag2) ?_; clear hf; intro a hf
          refine sY hf hs rfl rfl rfl (Y_gtr rfl rfl rfl) ?_; clear hf; intro a hf
          refine wpO_nil ?_
          refine wpL_cond hf rfl (fun hb5033 => ?_) (fun hb5033 => ?_)
          · have hm5023 := bif_t hm5023 hb5033
            refine wpL_seq ?_
            refine wpL_region ?_
            refine sY hf hs rfl rfl rfl (Y_assign rfl rfl) ?_; clear hf; intro a hf
            refine sY hf hs rfl rfl rfl (Y_assign rfl rfl) ?_; clear hf; intro a hf
            refine wpO_nil ?_
            have hs : St [] W _ [.mat A10 n11 c12 23 2 vs14 ms3744, .mat none 0 0 23 2 [] ([] : List (List Int))] := hs.addNilM 23 2
            obtain rfl := Option.some.inj hm5023
            try dsimp only at hm
            obtain rfl := Option.some.inj hm
            refine wpL_ret (Qb_ret (Ql_ret (Qb_ret (ret_tmp2 rfl hf rfl rfl ?_))))
            exact ⟨_, rfl, none, 0, 0, [], rfl, rfl, hs.sel [1] (by decide)⟩
          · have hm5023 := bif_f hm5023 hb5033
            refine wpL_skip ?_
            refine wpL_nil (Qb_normal ?_)
            refine wpL_region ?_
            refine sY hf hs rfl rfl rfl (Y_add rfl rfl rfl) ?_; clear hf; intro a hf
            refine sY hf hs rfl rfl rfl (Y_move rfl rfl) ?_; clear hf; intro a hf
            refine wpO_nil ?_
            refine wpL_nil (Ql_normal ?_)
            exact ⟨(IntKind.i64.wrap (x5011 + 1)), hm5023, (FrD.pick (FrD.pick (FrD.pick hf.none hf rfl) hf rfl) hf rfl), hs⟩
        · have hm5023 := bif_f hm5023 hb5025
          refine wpL_exit (Ql_exit (Qb_exit ?_))
          exact ⟨Option.some.inj hm5023, (FrD.pick hf.none hf rfl), hs⟩
    · rintro a w ⟨hr_, hf, hs⟩
      subst hr_
      try dsimp only at hm
      refine wpL_seq ?_
      refine wpL_region ?_
      refine sY hf hs rfl rfl rfl (Y_move rfl rfl) ?_; clear hf; intro a hf
      refine sY hf hs rfl rfl rfl (Y_assign rfl rfl) ?_; clear hf; intro a hf
      refine sY hf hs rfl rfl rfl (Y_assign rfl rfl) ?_; clear hf; intro a hf
      refine wpO_nil ?_
      obtain rfl := Option.some.inj hm
      refine wpL_ret (ret_tmp2 rfl hf rfl rfl ?_)
      exact ⟨_, rfl, A10, n11, c12, vs14, rfl, hn3745, hs⟩

set_option maxRecDepth 100000 in
theorem impl_transposed_c1_ok (F : Nat) (p0_i : Int) (p1_j : Int) (b_z0 : Nat) (z0 : List (List Int)) (A_z0_1 : Option Addr) (n_z0_1 c_z0_1 : Nat) (hn_z0_1 : n_z0_1 = z0.length) (r : Int) (W : World) (hm : impl_transposed_c1 F p0_i p1_j z0 = some r) (h_z0_1 : RdM W A_z0_1 z0) (h_z0 : PB W b_z0 59 [.slice A_z0_1 n_z0_1 c_z0_1]) :
    Calls Try.prog 172 [.int .i64 p0_i, .int .i64 p1_j, .pointer (some ⟨b_z0, 0, none⟩)].toArray W fun e w' => ∃ v, e = .returned v ∧ v = .int .i64 r ∧ St [] W w' [] := by
  subst hn_z0_1
  unfold impl_transposed_c1 at hm
  refine Calls.enter (N := 13) Try.func172 rfl rfl rfl (fun a hf => ?_)
  have hs := St.start W
  obtain ⟨w, hw_⟩ : ∃ w, w = W := ⟨W, rfl⟩
  clear hw_ w
  refine wpL_seq ?_
  refine wpL_region ?_
  refine sY hf hs rfl rfl rfl (Y_assign rfl rfl) ?_; clear hf; intro a hf
  refine wpO_nil ?_
  refine wpL_seq ?_
  refine wpL_region ?_
  refine sY hf hs rfl rfl rfl (Y_load_pb rfl rfl h_z0 rfl ag59) ?_; clear hf; intro a hf
  refine sY hf hs rfl rfl rfl (Y_move rfl rfl) ?_; clear hf; intro a hf
  obtain ⟨q1, hi2, hm⟩ := bind_some hm
  obtain ⟨hi2a, hi2b, hi2q⟩ := idx_some hi2
  obtain ⟨vs3, hv4, hr5⟩ := id h_z0_1
  obtain ⟨A6, c7, hv8, hR9⟩ := hr5 _ _ hi2q
  refine sY hf hs rfl rfl rfl (Y_index rfl rfl rfl el59 ti23 (Rd.isAt hv4 hv8) hi2a hi2b) ?_; clear hf; intro a hf
  refine sY hf hs rfl rfl rfl (Y_load_rd rfl rfl (fun w hs => hv4.at hs) (at1 hv8) ag23) ?_; clear hf; intro a hf
  refine sY hf hs rfl rfl rfl (Y_move rfl rfl) ?_; clear hf; intro a hf
  obtain ⟨q10, hi11, hm⟩ := bind_some hm
  obtain ⟨hi11a, hi11b, hi11q⟩ := idx_some hi11
  refine sY hf hs rfl rfl rfl (Y_index rfl rfl rfl el23 ti2 (Rd.isAt (hR9.at hs) (at1 (ints_at hi11q))) hi11a hi11b) ?_; clear hf; intro a hf
  refine sY hf hs rfl rfl rfl (Y_load_rd rfl rfl (fun w hs => hR9.at hs) (at1 (ints_at hi11q)) ag2) ?_; clear hf; intro a hf
  refine sY hf hs rfl rfl rfl (Y_assign rfl rfl) ?_; clear hf; intro a hf
  refine wpO_nil ?_
  obtain rfl := Option.some.inj hm
  refine wpL_ret (ret_tmp rfl hf rfl ?_)
  exact ⟨_, rfl, rfl, hs⟩

set_option maxRecDepth 100000 in
theorem impl_transposed_ok (F : Nat) (p0_a : List (List Int)) (A_p0_a_1 : Option Addr) (n_p0_a_1 c_p0_a_1 : Nat) (hn_p0_a_1 : n_p0_a_1 = p0_a.length) (r : List (List Int)) (W : World) (hm : impl_transposed F p0_a = some r) (h_p0_a_1 : RdM W A_p0_a_1 p0_a) :
    Calls Try.prog 131 [.slice A_p0_a_1 n_p0_a_1 c_p0_a_1].toArray W fun e w' => ∃ v, e = .returned v ∧ ∃ A18, ∃ n19, ∃ c20, ∃ vs22, v = .slice A18 n19 c20 ∧ n19 = r.length ∧ St [] W w' [.mat A18 n19 c20 23 2 vs22 r] := by
  subst hn_p0_a_1
  unfold impl_transposed at hm
  refine Calls.enter (N := 11) Try.func131 rfl rfl rfl (fun a hf => ?_)
  have hs := St.start W
  obtain ⟨w, hw_⟩ : ∃ w, w = W := ⟨W, rfl⟩
  clear hw_ w
  refine wpL_seq ?_
  refine wpL_region ?_
  refine sBox hf hs rfl rfl rfl rfl rfl (cs := [.slice A_p0_a_1 p0_a.length c_p0_a_1]) rfl ?_; clear hf hs; intro a w b1 hs hf
  have hs : St [] W w [.blk b1 59 [.slice A_p0_a_1 p0_a.length c_p0_a_1]] := hs
  refine sY hf hs rfl rfl rfl (Y_assign rfl rfl) ?_; clear hf; intro a hf
  refine wpO_nil ?_
  refine wpL_seq ?_
  refine wpL_drawM [.blk b1 59 [.slice A_p0_a_1 p0_a.length c_p0_a_1]] [7] (by kernel_rfl) hs ?_; clear hs; intro w hs
  have hs0 : St [] W w [.blk b1 59 [.slice A_p0_a_1 p0_a.length c_p0_a_1]] := hs
  refine mY (i := 0) [[1, 2, 3]] rfl (by kernel_rfl) (by kernel_rfl) hf hs0 rfl rfl rfl (Y_load_blk rfl rfl (i := 0) rfl rfl ag59) ?_; clear hf; intro a hf
  obtain ⟨q2, hi3, hm⟩ := bind_some hm
  obtain ⟨hi3a, hi3b, hi3q⟩ := idx_some hi3
  obtain ⟨vs4, hv5, hr6⟩ := id h_p0_a_1
  obtain ⟨A7, c8, hv9, hR10⟩ := hr6 _ _ hi3q
  refine mYp (i := 1) rfl (by kernel_rfl) (by kernel_rfl) hf rfl rfl rfl (fun _ => Y_index rfl rfl rfl el59 ti23 (Rd.isAt hv5 hv9) hi3a hi3b) ?_; clear hf; intro a hf
  refine mY (i := 2) [[3]] rfl (by kernel_rfl) (by kernel_rfl) hf hs0 rfl rfl rfl (Y_load_rd rfl rfl (fun w hs => hv5.at hs) (at1 hv9) ag23) ?_; clear hf; intro a hf
  refine mYp (i := 3) rfl (by kernel_rfl) (by kernel_rfl) hf rfl rfl rfl (fun _ => Y_lenH rfl rfl el23 rfl) ?_; clear hf; intro a hf
  refine mY (i := 4) [[5]] rfl (by kernel_rfl) (by kernel_rfl) hf hs0 rfl rfl rfl (Y_load_blk rfl rfl (i := 0) rfl rfl ag59) ?_; clear hf; intro a hf
  refine mYp (i := 5) rfl (by kernel_rfl) (by kernel_rfl) hf rfl rfl rfl (fun _ => Y_lenH rfl rfl el59 rfl) ?_; clear hf; intro a hf
  refine mYp (i := 6) rfl (by kernel_rfl) (by kernel_rfl) hf rfl rfl rfl (fun _ => Y_makeFunc (us := []) (vs := [.pointer (some ⟨b1, 0, none⟩)]) rfl rfl rfl) ?_; clear hf; intro a hf
  refine mRun (i := 7) rfl (by kernel_rfl) ?_
  obtain ⟨r11, hc12, hm⟩ := bind_some hm
  refine sCall hf rfl rfl rfl rfl (cap := []) rfl rfl en168 (impl_matrixBy_ok F (q2.length : Int) (p0_a.length : Int) (fun x0 x1 => impl_transposed_c1 F x0 x1 p0_a) 172 ([.pointer (some ⟨b1, 0, none⟩)]) _ _ hc12 (fun x0 x1 r w' hm_ hb => impl_transposed_c1_ok F x0 x1 b1 p0_a A_p0_a_1 p0_a.length c_p0_a_1 rfl r w' hm_ ((h_p0_a_1.at hs).below hb (Nat.le_refl _)) ((hs.pb (i := 0) rfl).below hb (Nat.le_refl _))) en172) ?_; clear hf
  rintro _ w ⟨A13, n14, c15, vs17, rfl, hn16, hs1⟩ a hf
  have hs : St [] W w [.blk b1 59 [.slice A_p0_a_1 p0_a.length c_p0_a_1], .mat A13 n14 c15 23 2 vs17 r11] := hs.join hs1
  clear hs1
  refine wpO_nil ⟨Or.inl (by decide), ?_⟩
  refine mYp (i := 8) rfl (by kernel_rfl) (by kernel_rfl) hf rfl rfl rfl (fun _ => Y_assign rfl rfl) ?_; clear hf; intro a hf
  refine mDone (by kernel_rfl) ?_
  clear hs0
  obtain rfl := Option.some.inj hm
  refine wpL_ret (ret_tmp rfl hf rfl ?_)
  exact ⟨_, rfl, A13, n14, c15, vs17, rfl, hn16, hs.sel [1] (by decide)⟩

set_option maxRecDepth 100000 in
theorem impl_timesVector_ok (F : Nat) (p0_a : List (List Int)) (A_p0_a_1 : Option Addr) (n_p0_a_1 c_p0_a_1 : Nat) (hn_p0_a_1 : n_p0_a_1 = p0_a.length) (p1_x : List Int) (A_p1_x_1 : Option Addr) (n_p1_x_1 c_p1_x_1 : Nat) (hn_p1_x_1 : n_p1_x_1 = p1_x.length) (r : List Int) (W : World) (hm : impl_timesVector F p0_a p1_x = some r) (h_p0_a_1 : RdM W A_p0_a_1 p0_a) (h_p1_x_1 : Rd W A_p1_x_1 (ints p1_x)) :
    Calls Try.prog 130 [.slice A_p0_a_1 n_p0_a_1 c_p0_a_1, .slice A_p1_x_1 n_p1_x_1 c_p1_x_1].toArray W fun e w' => ∃ v, e = .returned v ∧ ∃ A488, ∃ n489, ∃ c490, v = .slice A488 n489 c490 ∧ n489 = r.length ∧ St [] W w' [.row A488 n489 c490 2 1 (ints r)] := by
  subst hn_p0_a_1
  subst hn_p1_x_1
  unfold impl_timesVector at hm
  refine Calls.enter (N := 47) Try.func130 rfl rfl rfl (fun a hf => ?_)
  have hs := St.start W
  obtain ⟨w, hw_⟩ : ∃ w, w = W := ⟨W, rfl⟩
  clear hw_ w
  refine wpL_seq ?_
  refine wpL_region ?_
  refine sY hf hs rfl rfl rfl (Y_assign rfl rfl) ?_; clear hf; intro a hf
  refine wpO_nil ?_
  refine wpL_seq ?_
  refine wpL_region ?_
  refine sY hf hs rfl rfl rfl (Y_move rfl rfl) ?_; clear hf; intro a hf
  refine sY hf hs rfl rfl rfl (Y_lenH rfl rfl el59 rfl) ?_; clear hf; intro a hf
  obtain ⟨xs3, hk2, hm⟩ := bind_some hm
  refine sMakeL (enc := ints) hf hs rfl rfl rfl rfl rfl hk2 el23 ti2 rfl ints_made ?_; clear hf hs; intro a w A1 hs hf
  have hs : St [] W w [.row A1 xs3.length xs3.length 2 1 (ints xs3)] := hs
  refine sY hf hs rfl rfl rfl (Y_assign rfl rfl) ?_; clear hf; intro a hf
  refine wpO_nil ?_
  refine wpL_seq ?_
  refine wpL_seq ?_
  refine wpL_region ?_
  refine sY hf hs rfl rfl rfl (Y_move rfl rfl) ?_; clear hf; intro a hf
  refine sY hf hs rfl rfl rfl (Y_lenH rfl rfl el59 rfl) ?_; clear hf; intro a hf
  refine sY hf hs rfl rfl rfl (Y_move rfl rfl) ?_; clear hf; intro a hf
  refine wpO_nil ?_
  obtain ⟨r366, hl367, hm⟩ := bind_some hm
  refine wpL_block (fun a w => ∃ xs364 : List Int, xs364 = r366 ∧ xs3.length = xs364.length ∧ Fr a 47 [(5, .slice A1 xs3.length xs3.length)] ∧ St [] W w [.row A1 xs3.length xs3.length 2 1 (ints xs364)]) ?_ ?_
  · refine wpL_loop (fun n a w => ∃ xs243 : List Int, ∃ x245 : Int, impl_timesVector_L4 F p0_a p1_x n xs243 x245 = some r366 ∧ xs3.length = xs243.length ∧ Fr a 47 [(1, .slice A_p1_x_1 p1_x.length c_p1_x_1), (5, .slice A1 xs3.length xs3.length), (13, .slice A_p0_a_1 p0_a.length c_p0_a_1), (14, .int .i64 (p0_a.length : Int)), (15, .int .i64 x245)] ∧ St [] W w [.row A1 xs3.length xs3.length 2 1 (ints xs243)]) F ?_ ?_ ?_
    · exact ⟨xs3, 0, hl367, rfl, (FrD.pick (FrD.pick (FrD.pick (FrD.pick (FrD.pick hf.none hf rfl) hf rfl) hf rfl) hf rfl) hf rfl), hs⟩
    · rintro a w ⟨xs243, x245, h0_, -, -, -⟩; simp [impl_timesVector_L4] at h0_
    · rintro n369 a w ⟨xs243, x245, hm368, hn244, hf, hs⟩
      rw [impl_timesVector_L4] at hm368
      refine wpL_seq ?_
      refine wpL_region ?_
      refine sY hf hs rfl rfl rfl (Y_lss rfl rfl rfl) ?_; clear hf; intro a hf
      refine wpO_nil ?_
      refine wpL_seq ?_
      refine wpL_cond hf rfl (fun hb370 => ?_) (fun hb370 => ?_)
      · have hm368 := bif_t hm368 hb370
        refine wpL_skip ?_
        refine wpL_seq ?_
        refine wpL_block0 ?_
        refine wpL_seq ?_
        refine wpL_region ?_
        refine sY hf hs rfl rfl rfl (Y_move rfl rfl) ?_; clear hf; intro a hf
        obtain ⟨q371, hi372, hm368⟩ := bind_some hm368
        obtain ⟨hi372a, hi372b, hi372q⟩ := idx_some hi372
        obtain ⟨vs373, hv374, hr375⟩ := id h_p0_a_1
        obtain ⟨A376, c377, hv378, hR379⟩ := hr375 _ _ hi372q
        refine sY hf hs rfl rfl rfl (Y_index rfl rfl rfl el59 ti23 (Rd.isAt hv374 hv378) hi372a hi372b) ?_; clear hf; intro a hf
        refine sY hf hs rfl rfl rfl (Y_load_rd rfl rfl (fun w hs => hv374.at hs) (at1 hv378) ag23) ?_; clear hf; intro a hf
        refine sY hf hs rfl rfl rfl (Y_assign rfl rfl) ?_; clear hf; intro a hf
        refine sY hf hs rfl rfl rfl (Y_assign rfl rfl) ?_; clear hf; intro a hf
        refine wpO_nil ?_
        refine wpL_seq ?_
        refine wpL_region ?_
        refine sY hf hs rfl rfl rfl (Y_move rfl rfl) ?_; clear hf; intro a hf
        refine sY hf hs rfl rfl rfl (Y_move rfl rfl) ?_; clear hf; intro a hf
        obtain ⟨q380, hi381, hm368⟩ := bind_some hm368
        obtain ⟨hi381a, hi381b, hi381q⟩ := idx_some hi381
        refine sY hf hs rfl rfl rfl (Y_index rfl rfl rfl el23 ti2 (Rd.isAt (hs.rd (i := 0) rfl) (at1 (ints_at hi381q))) hi381a (ltn hn244 hi381b)) ?_; clear hf; intro a hf
        obtain ⟨xs382, hu383, hm368⟩ := bind_some hm368
        refine sStoreL (i := 0) (us := [.int .i64 (-1000000000000000)]) (enc := ints) hf hs rfl rfl rfl rfl rfl rfl hn244 hu383 ti2 rfl rfl rfl rfl rfl ints_len1 (ints_set (-1000000000000000)) ?_; clear hs; intro w hs
        have hs : St [] W w [.row A1 xs3.length xs3.length 2 1 (ints xs382)] := hs
        refine wpO_nil ?_
        refine wpL_seq ?_
        refine wpL_region ?_
        refine sY hf hs rfl rfl rfl (Y_move rfl rfl) ?_; clear hf; intro a hf
        refine sY hf hs rfl rfl rfl (Y_lenH rfl rfl el23 rfl) ?_; clear hf; intro a hf
        refine sY hf hs rfl rfl rfl (Y_move rfl rfl) ?_; clear hf; intro a hf
        refine wpO_nil ?_
        obtain ⟨r461, hl462, hm368⟩ := bind_some hm368
        refine wpL_block (fun a w => ∃ xs459 : List Int, xs459 = r461 ∧ xs3.length = xs459.length ∧ Fr a 47 [(1, .slice A_p1_x_1 p1_x.length c_p1_x_1), (5, .slice A1 xs3.length xs3.length), (13, .slice A_p0_a_1 p0_a.length c_p0_a_1), (14, .int .i64 (p0_a.length : Int)), (15, .int .i64 x245)] ∧ St [] W w [.row A1 xs3.length xs3.length 2 1 (ints xs459)]) ?_ ?_
        · refine wpL_loop (fun n a w => ∃ xs433 : List Int, ∃ x435 : Int, impl_timesVector_L5 F p1_x x245 q371 n xs433 x435 = some r461 ∧ xs3.length = xs433.length ∧ Fr a 47 [(1, .slice A_p1_x_1 p1_x.length c_p1_x_1), (5, .slice A1 xs3.length xs3.length), (6, .int .i64 x245), (13, .slice A_p0_a_1 p0_a.length c_p0_a_1), (14, .int .i64 (p0_a.length : Int)), (15, .int .i64 x245), (23, .slice A376 q371.length c377), (24, .int .i64 (q371.length : Int)), (25, .int .i64 x435)] ∧ St [] W w [.row A1 xs3.length xs3.length 2 1 (ints xs433)]) F ?_ ?_ ?_
          · exact ⟨xs382, 0, hl462, ((hn244).trans (upd_len hu383).symm), (FrD.pick (FrD.pick (FrD.pick (FrD.pick (FrD.pick (FrD.pick (FrD.pick (FrD.pick (FrD.pick hf.none hf rfl) hf rfl) hf rfl) hf rfl) hf rfl) hf rfl) hf rfl) hf rfl) hf rfl), hs⟩
          · rintro a w ⟨xs433, x435, h0_, -, -, -⟩; simp [impl_timesVector_L5] at h0_
          · rintro n464 a w ⟨xs433, x435, hm463, hn434, hf, hs⟩
            rw [impl_timesVector_L5] at hm463
            refine wpL_seq ?_
            refine wpL_region ?_
            refine sY hf hs rfl rfl rfl (Y_lss rfl rfl rfl) ?_; clear hf; intro a hf
            refine wpO_nil ?_
            refine wpL_seq ?_
            refine wpL_cond hf rfl (fun hb465 => ?_) (fun hb465 => ?_)
            · have hm463 := bif_t hm463 hb465
              refine wpL_skip ?_
              refine wpL_seq ?_
              refine wpL_block0 ?_
              refine wpL_seq ?_
              refine wpL_region ?_
              refine sY hf hs rfl rfl rfl (Y_move rfl rfl) ?_; clear hf; intro a hf
              obtain ⟨q466, hi467, hm463⟩ := bind_some hm463
              obtain ⟨hi467a, hi467b, hi467q⟩ := idx_some hi467
              refine sY hf hs rfl rfl rfl (Y_index rfl rfl rfl el23 ti2 (Rd.isAt (hR379.at hs) (at1 (ints_at hi467q))) hi467a hi467b) ?_; clear hf; intro a hf
              refine sY hf hs rfl rfl rfl (Y_load_rd rfl rfl (fun w hs => hR379.at hs) (at1 (ints_at hi467q)) ag2) ?_; clear hf; intro a hf
              refine sY hf hs rfl rfl rfl (Y_assign rfl rfl) ?_; clear hf; intro a hf
              refine sY hf hs rfl rfl rfl (Y_assign rfl rfl) ?_; clear hf; intro a hf
              refine wpO_nil ?_
              refine wpL_drawM [.row A1 xs3.length xs3.length 2 1 (ints xs433)] [14] (by kernel_rfl) hs ?_; clear hs; intro w hs
              have hs0 : St [] W w [.row A1 xs3.length xs3.length 2 1 (ints xs433)] := hs
              refine mYp (i := 0) rfl (by kernel_rfl) (by kernel_rfl) hf rfl rfl rfl (fun _ => Y_move rfl rfl) ?_; clear hf; intro a hf
              refine mYp (i := 1) rfl (by kernel_rfl) (by kernel_rfl) hf rfl rfl rfl (fun _ => Y_move rfl rfl) ?_; clear hf; intro a hf
              refine mYp (i := 2) rfl (by kernel_rfl) (by kernel_rfl) hf rfl rfl rfl (fun _ => Y_move rfl rfl) ?_; clear hf; intro a hf
              refine mYp (i := 3) rfl (by kernel_rfl) (by kernel_rfl) hf rfl rfl rfl (fun _ => Y_move rfl rfl) ?_; clear hf; intro a hf
              obtain ⟨q478, hi479, hm463⟩ := bind_some hm463
              obtain ⟨hi479a, hi479b, hi479q⟩ := idx_some hi479
              refine mYp (i := 4) rfl (by kernel_rfl) (by kernel_rfl) hf rfl rfl rfl (fun _ => Y_index rfl rfl rfl el23 ti2 (Rd.isAt (hs.rd (i := 0) rfl) (at1 (ints_at hi479q))) hi479a (ltn hn434 hi479b)) ?_; clear hf; intro a hf
              refine mY (i := 5) [[]] rfl (by kernel_rfl) (by kernel_rfl) hf hs0 rfl rfl rfl (Y_load_rd rfl rfl (fun w hs => hs.rd (i := 0) rfl) (at1 (ints_at hi479q)) ag2) ?_; clear hf; intro a hf
              refine mYp (i := 6) rfl (by kernel_rfl) (by kernel_rfl) hf rfl rfl rfl (fun _ => Y_move rfl rfl) ?_; clear hf; intro a hf
              refine mYp (i := 7) rfl (by kernel_rfl) (by kernel_rfl) hf rfl rfl rfl (fun _ => Y_move rfl rfl) ?_; clear hf; intro a hf
              refine mYp (i := 8) rfl (by kernel_rfl) (by kernel_rfl) hf rfl rfl rfl (fun _ => Y_move rfl rfl) ?_; clear hf; intro a hf
              obtain ⟨q480, hi481, hm463⟩ := bind_some hm463
              obtain ⟨hi481a, hi481b, hi481q⟩ := idx_some hi481
              refine mYp (i := 9) rfl (by kernel_rfl) (by kernel_rfl) hf rfl rfl rfl (fun _ => Y_index rfl rfl rfl el23 ti2 (Rd.isAt (h_p1_x_1.at hs) (at1 (ints_at hi481q))) hi481a hi481b) ?_; clear hf; intro a hf
              refine mY (i := 10) [[]] rfl (by kernel_rfl) (by kernel_rfl) hf hs0 rfl rfl rfl (Y_load_rd rfl rfl (fun w hs => h_p1_x_1.at hs) (at1 (ints_at hi481q)) ag2) ?_; clear hf; intro a hf
              refine mRun (i := 11) rfl (by kernel_rfl) ?_
              obtain ⟨r482, hc483, hm463⟩ := bind_some hm463
              refine sCall hf rfl rfl rfl rfl (cap := []) rfl rfl en129 (impl_times_ok F q466 q480 _ _ hc483) ?_; clear hf
              rintro _ w ⟨rfl, hs1⟩ a hf
              have hs : St [] W w [.row A1 xs3.length xs3.length 2 1 (ints xs433)] := hs.ext hs1.below
              clear hs1
              have hs0 : St [] W w [.row A1 xs3.length xs3.length 2 1 (ints xs433)] := hs
              refine wpO_nil ⟨Or.inr (fun _ => hs0), ?_⟩
              refine mYp (i := 12) rfl (by kernel_rfl) (by kernel_rfl) hf rfl rfl rfl (fun _ => Y_max rfl rfl rfl) ?_; clear hf; intro a hf
              obtain ⟨q484, hi485, hm463⟩ := bind_some hm463
              obtain ⟨hi485a, hi485b, hi485q⟩ := idx_some hi485
              refine mYp (i := 13) rfl (by kernel_rfl) (by kernel_rfl) hf rfl rfl rfl (fun _ => Y_index rfl rfl rfl el23 ti2 (Rd.isAt (hs.rd (i := 0) rfl) (at1 (ints_at hi485q))) hi485a (ltn hn434 hi485b)) ?_; clear hf; intro a hf
              refine mRun (i := 14) rfl (by kernel_rfl) ?_
              obtain ⟨xs486, hu487, hm463⟩ := bind_some hm463
              refine sStoreL (i := 0) (us := [.int .i64 (max q478 r482)]) (enc := ints) hf hs rfl rfl rfl rfl rfl rfl hn434 hu487 ti2 rfl rfl rfl rfl rfl ints_len1 (ints_set (max q478 r482)) ?_; clear hs; intro w hs
              have hs : St [] W w [.row A1 xs3.length xs3.length 2 1 (ints xs486)] := hs
              refine wpO_nil ⟨Or.inl (by decide), ?_⟩
              refine mDone (by kernel_rfl) ?_
              clear hs0
              refine wpL_nil (Qb_normal ?_)
              refine wpL_region ?_
              refine sY hf hs rfl rfl rfl (Y_add rfl rfl rfl) ?_; clear hf; intro a hf
              refine sY hf hs rfl rfl rfl (Y_move rfl rfl) ?_; clear hf; intro a hf
              refine wpO_nil ?_
              refine wpL_nil (Ql_normal ?_)
              exact ⟨xs486, (IntKind.i64.wrap (x435 + 1)), hm463, ((hn434).trans (upd_len hu487).symm), (FrD.pick (FrD.pick (FrD.pick (FrD.pick (FrD.pick (FrD.pick (FrD.pick (FrD.pick (FrD.pick hf.none hf rfl) hf rfl) hf rfl) hf rfl) hf rfl) hf rfl) hf rfl) hf rfl) hf rfl), hs⟩
            · have hm463 := bif_f hm463 hb465
              refine wpL_exit (Ql_exit (Qb_exit ?_))
              exact ⟨xs433, Option.some.inj hm463, hn434, (FrD.pick (FrD.pick (FrD.pick (FrD.pick (FrD.pick hf.none hf rfl) hf rfl) hf rfl) hf rfl) hf rfl), hs⟩
        · rintro a w ⟨xs459, hr_, hn460, hf, hs⟩
          subst hr_
          try dsimp only at hm368
          refine wpL_nil (Qb_normal ?_)
          refine wpL_region ?_
          refine sY hf hs rfl rfl rfl (Y_add rfl rfl rfl) ?_; clear hf; intro a hf
          refine sY hf hs rfl rfl rfl (Y_move rfl rfl) ?_; clear hf; intro a hf
          refine wpO_nil ?_
          refine wpL_nil (Ql_normal ?_)
          exact ⟨xs459, (IntKind.i64.wrap (x245 + 1)), hm368, hn460, (FrD.pick (FrD.pick (FrD.pick (FrD.pick (FrD.pick hf.none hf rfl) hf rfl) hf rfl) hf rfl) hf rfl), hs⟩
      · have hm368 := bif_f hm368 hb370
        refine wpL_exit (Ql_exit (Qb_exit ?_))
        exact ⟨xs243, Option.some.inj hm368, hn244, (FrD.pick hf.none hf rfl), hs⟩
  · rintro a w ⟨xs364, hr_, hn365, hf, hs⟩
    subst hr_
    try dsimp only at hm
    refine wpL_seq ?_
    refine wpL_region ?_
    refine sY hf hs rfl rfl rfl (Y_move rfl rfl) ?_; clear hf; intro a hf
    refine sY hf hs rfl rfl rfl (Y_assign rfl rfl) ?_; clear hf; intro a hf
    refine wpO_nil ?_
    obtain rfl := Option.some.inj hm
    refine wpL_ret (ret_tmp rfl hf rfl ?_)
    exact ⟨_, rfl, A1, xs3.length, xs3.length, rfl, hn365, hs⟩

end Go.Proofs.Ytebmlphobgaboaa
