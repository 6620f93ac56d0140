/- The functions do what their models say. -/
import Derived.Test.YtebmlphobgaboabPositiveCyclesLifted2
import Derived.Test.YtebmlphobgaboabRows
namespace Go.Proofs.Ytebmlphobgaboab
open Go.RowKit

set_option maxHeartbeats 2000000 in
set_option maxRecDepth 100000 in
theorem spec_l03DrawNodes_ok (F : Nat) (b_p0 : Nat) (p0_code : List Int) (A_p0_code : Option Addr) (n_p0_code c_p0_code : Nat) (hn_p0_code : n_p0_code = p0_code.length) (p0_at : Int) (p0_seed : Int) (p1 : List (List Int)) (A_p1_1 : Option Addr) (n_p1_1 c_p1_1 : Nat) (hn_p1_1 : n_p1_1 = p1.length) (r : (List Int) × Int × Int) (W : World) (hm : spec_l03DrawNodes F p0_code p0_at p0_seed p1 = some r) (h_p0_code : KR (muL [.blk b_p0 149 [.slice A_p0_code n_p0_code c_p0_code, .int .i64 p0_at, .int .i64 p0_seed]]) W A_p0_code (bytes p0_code)) (h_p1_1 : KM (muL [.blk b_p0 149 [.slice A_p0_code n_p0_code c_p0_code, .int .i64 p0_at, .int .i64 p0_seed]]) W A_p1_1 p1) (hst : St (muL [.blk b_p0 149 [.slice A_p0_code n_p0_code c_p0_code, .int .i64 p0_at, .int .i64 p0_seed]]) W W [.blk b_p0 149 [.slice A_p0_code n_p0_code c_p0_code, .int .i64 p0_at, .int .i64 p0_seed]]) :
    Calls Try.prog 169 [.pointer (some ⟨b_p0, 0, none⟩), .slice A_p1_1 n_p1_1 c_p1_1].toArray W fun e w' => ∃ v, e = .returned v ∧ ∃ A932, ∃ n933, ∃ c934, v = .slice A932 n933 c934 ∧ n933 = r.1.length ∧ St (muL [.blk b_p0 149 [.slice A_p0_code n_p0_code c_p0_code, .int .i64 p0_at, .int .i64 p0_seed]]) W w' [.row A932 n933 c934 2 1 (ints r.1), .blk b_p0 149 [.slice A_p0_code n_p0_code c_p0_code, .int .i64 r.2.1, .int .i64 r.2.2]] := by
  subst hn_p0_code
  subst hn_p1_1
  unfold spec_l03DrawNodes at hm
  refine Calls.enter (N := 81) Try.func169 rfl rfl rfl (fun a hf => ?_)
  have hs := hst
  obtain ⟨w, hw_⟩ : ∃ w, w = W := ⟨W, rfl⟩
  clear hw_ w
  refine wpL_seq ?_
  refine wpL_region ?_
  refine sY hf hs rfl rfl rfl (Y_assign rfl rfl) ?_; clear hf; intro a hf
  refine wpO_nil ?_
  refine wpL_seq ?_
  refine wpL_region ?_
  refine sY hf hs rfl rfl rfl (Y_move rfl rfl) ?_; clear hf; intro a hf
  refine sY hf hs rfl rfl rfl (Y_lenH rfl rfl el40 rfl) ?_; clear hf; intro a hf
  refine sY hf hs rfl rfl rfl (Y_assign rfl rfl) ?_; clear hf; intro a hf
  refine wpO_nil ?_
  refine wpL_seq ?_
  refine wpL_seq ?_
  refine wpL_region ?_
  refine sY hf hs rfl rfl rfl (Y_move rfl rfl) ?_; clear hf; intro a hf
  refine sY hf hs rfl rfl rfl (Y_eql rfl rfl rfl) ?_; clear hf; intro a hf
  refine wpO_nil ?_
  refine wpL_cond hf rfl (fun hb1 => ?_) (fun hb1 => ?_)
  · have hm := bif_t hm hb1
    refine wpL_seq ?_
    refine wpL_region ?_
    refine sBuildSlice (parts := [(0, .const (.int .i64 0))]) (vs := [.int .i64 0]) (cells := [.int .i64 0]) hf hs rfl rfl rfl rfl rfl el28 ti2 rfl rfl rfl rfl ?_; clear hf hs; intro a w A2 hs hA3 hf
    have hs : St (muL [.blk b_p0 149 [.slice A_p0_code p0_code.length c_p0_code, .int .i64 p0_at, .int .i64 p0_seed]]) W w [.blk b_p0 149 [.slice A_p0_code p0_code.length c_p0_code, .int .i64 p0_at, .int .i64 p0_seed], .row A2 1 1 2 1 (ints ([0]))] := hs
    refine sY hf hs rfl rfl rfl (Y_assign rfl rfl) ?_; clear hf; intro a hf
    refine wpO_nil ?_
    obtain rfl := Option.some.inj hm
    refine wpL_ret (ret_tmp rfl hf rfl ?_)
    exact ⟨_, rfl, A2, 1, 1, rfl, rfl, hs.sel [1, 0] (by decide)⟩
  · have hm := bif_f hm hb1
    refine wpL_skip ?_
    refine wpL_seq ?_
    refine wpL_region ?_
    refine sY hf hs rfl rfl rfl (Y_move rfl rfl) ?_; clear hf; intro a hf
    refine sY hf hs rfl rfl rfl (Y_move rfl rfl) ?_; clear hf; intro a hf
    obtain ⟨r4, hc5, hm⟩ := bind_some hm
    refine sCall hf rfl rfl rfl rfl (cap := []) rfl rfl en93 (spec_l01Next_ok F b_p0 p0_code A_p0_code p0_code.length c_p0_code rfl p0_at p0_seed (p1.length : Int) _ _ hc5 (h_p0_code.pass hs [0]) (hs.sel [0] (by decide)).rebase) ?_; clear hf
    rintro _ w ⟨rfl, hs1⟩ a hf
    have hs : St (muL [.blk b_p0 149 [.slice A_p0_code p0_code.length c_p0_code, .int .i64 p0_at, .int .i64 p0_seed]]) W w [.blk b_p0 149 [.slice A_p0_code p0_code.length c_p0_code, .int .i64 r4.2.1, .int .i64 r4.2.2]] := St.mutTail (La := []) (Lb := [.blk b_p0 149 [.slice A_p0_code p0_code.length c_p0_code, .int .i64 p0_at, .int .i64 p0_seed]]) (hs.sel [0] (by decide)) hs1
    clear hs1
    refine sBuildSlice (parts := [(0, .tmp 18)]) (vs := [.int .i64 r4.1]) (cells := [.int .i64 r4.1]) hf hs rfl rfl rfl rfl rfl el28 ti2 rfl rfl rfl rfl ?_; clear hf hs; intro a w A6 hs hA7 hf
    have hs : St (muL [.blk b_p0 149 [.slice A_p0_code p0_code.length c_p0_code, .int .i64 p0_at, .int .i64 p0_seed]]) W w [.blk b_p0 149 [.slice A_p0_code p0_code.length c_p0_code, .int .i64 r4.2.1, .int .i64 r4.2.2], .row A6 1 1 2 1 (ints ([r4.1]))] := hs
    refine sY hf hs rfl rfl rfl (Y_assign rfl rfl) ?_; clear hf; intro a hf
    refine wpO_nil ?_
    refine wpL_seq ?_
    refine wpL_seq ?_
    refine wpL_region ?_
    refine sY hf hs rfl rfl rfl (Y_move rfl rfl) ?_; clear hf; intro a hf
    obtain ⟨r8, hc9, hm⟩ := bind_some hm
    refine sCall hf rfl rfl rfl rfl (cap := []) rfl rfl en93 (spec_l01Next_ok F b_p0 p0_code A_p0_code p0_code.length c_p0_code rfl r4.2.1 r4.2.2 6 _ _ hc9 (h_p0_code.pass hs [0]) (hs.sel [0] (by decide)).rebase) ?_; clear hf
    rintro _ w ⟨rfl, hs1⟩ a hf
    have hs : St (muL [.blk b_p0 149 [.slice A_p0_code p0_code.length c_p0_code, .int .i64 p0_at, .int .i64 p0_seed]]) W w [.row A6 1 1 2 1 (ints ([r4.1])), .blk b_p0 149 [.slice A_p0_code p0_code.length c_p0_code, .int .i64 r8.2.1, .int .i64 r8.2.2]] := St.mutTail (La := [.row A6 1 1 2 1 (ints ([r4.1]))]) (Lb := [.blk b_p0 149 [.slice A_p0_code p0_code.length c_p0_code, .int .i64 r4.2.1, .int .i64 r4.2.2]]) (hs.sel [1, 0] (by decide)) hs1
    clear hs1
    refine sY hf hs rfl rfl rfl (Y_assign rfl rfl) ?_; clear hf; intro a hf
    refine wpO_nil ?_
    obtain ⟨r693, hl694, hm⟩ := bind_some hm
    refine wpL_block (fun a w => ∃ x686 : Int, ∃ x687 : Int, ∃ xs688 : List Int, ∃ A689, ∃ n690, ∃ c691, (x686, x687, xs688) = r693 ∧ n690 = xs688.length ∧ Fr a 81 [(0, .pointer (some ⟨b_p0, 0, none⟩)), (5, .int .i64 (p1.length : Int)), (6, .slice A689 n690 c691)] ∧ St (muL [.blk b_p0 149 [.slice A_p0_code p0_code.length c_p0_code, .int .i64 p0_at, .int .i64 p0_seed]]) W w [.blk b_p0 149 [.slice A_p0_code p0_code.length c_p0_code, .int .i64 x686, .int .i64 x687], .row A689 n690 c691 2 1 (ints xs688)]) ?_ ?_
    · refine wpL_loop (fun n a w => ∃ x458 : Int, ∃ x459 : Int, ∃ xs460 : List Int, ∃ x465 : Int, ∃ A461, ∃ n462, ∃ c463, spec_l03DrawNodes_L4 F p0_code p1 n x458 x459 xs460 x465 = some r693 ∧ n462 = xs460.length ∧ Fr a 81 [(0, .pointer (some ⟨b_p0, 0, none⟩)), (1, .slice A_p1_1 p1.length c_p1_1), (5, .int .i64 (p1.length : Int)), (6, .slice A461 n462 c463), (7, .int .i64 x465)] ∧ St (muL [.blk b_p0 149 [.slice A_p0_code p0_code.length c_p0_code, .int .i64 p0_at, .int .i64 p0_seed]]) W w [.blk b_p0 149 [.slice A_p0_code p0_code.length c_p0_code, .int .i64 x458, .int .i64 x459], .row A461 n462 c463 2 1 (ints xs460)]) F ?_ ?_ ?_
      · exact ⟨r8.2.1, r8.2.2, [r4.1], r8.1, A6, 1, 1, hl694, rfl, (FrD.pick (FrD.pick (FrD.pick (FrD.pick (FrD.pick hf.none hf rfl) hf rfl) hf rfl) hf rfl) hf rfl), hs.sel [1, 0] (by decide)⟩
      · rintro a w ⟨x458, x459, xs460, x465, A461, n462, c463, h0_, -, -, -⟩; simp [spec_l03DrawNodes_L4] at h0_
      · rintro n696 a w ⟨x458, x459, xs460, x465, A461, n462, c463, hm695, hn464, hf, hs⟩
        rw [spec_l03DrawNodes_L4] at hm695
        refine wpL_seq ?_
        refine wpL_seq ?_
        refine wpL_region ?_
        refine sY hf hs rfl rfl rfl (Y_move rfl rfl) ?_; clear hf; intro a hf
        refine sY hf hs rfl rfl rfl (Y_gtr rfl rfl rfl) ?_; clear hf; intro a hf
        refine wpO_nil ?_
        refine wpL_cond hf rfl (fun hb697 => ?_) (fun hb697 => ?_)
        · have hm695 := bif_t hm695 hb697
          refine wpL_skip ?_
          refine wpL_seq ?_
          refine wpL_block0 ?_
          refine wpL_seq ?_
          refine wpL_region ?_
          refine sY hf hs rfl rfl rfl (Y_move rfl rfl) ?_; clear hf; intro a hf
          refine sY hf hs rfl rfl rfl (Y_move rfl rfl) ?_; clear hf; intro a hf
          obtain ⟨r698, hc699, hm695⟩ := bind_some hm695
          refine sCall hf rfl rfl rfl rfl (cap := []) rfl rfl en93 (spec_l01Next_ok F b_p0 p0_code A_p0_code p0_code.length c_p0_code rfl x458 x459 (p1.length : Int) _ _ hc699 (h_p0_code.pass hs [0]) (hs.sel [0] (by decide)).rebase) ?_; clear hf
          rintro _ w ⟨rfl, hs1⟩ a hf
          have hs : St (muL [.blk b_p0 149 [.slice A_p0_code p0_code.length c_p0_code, .int .i64 p0_at, .int .i64 p0_seed]]) W w [.row A461 n462 c463 2 1 (ints xs460), .blk b_p0 149 [.slice A_p0_code p0_code.length c_p0_code, .int .i64 r698.2.1, .int .i64 r698.2.2]] := St.mutTail (La := [.row A461 n462 c463 2 1 (ints xs460)]) (Lb := [.blk b_p0 149 [.slice A_p0_code p0_code.length c_p0_code, .int .i64 x458, .int .i64 x459]]) (hs.sel [1, 0] (by decide)) hs1
          clear hs1
          refine sY hf hs rfl rfl rfl (Y_assign rfl rfl) ?_; clear hf; intro a hf
          refine wpO_nil ?_
          refine wpL_seq ?_
          refine wpL_region ?_
          refine sY hf hs rfl rfl rfl (Y_move rfl rfl) ?_; clear hf; intro a hf
          refine sY hf hs rfl rfl rfl (Y_move rfl rfl) ?_; clear hf; intro a hf
          refine sY hf hs rfl rfl rfl (Y_lenH rfl rfl el28 hn464) ?_; clear hf; intro a hf
          refine sY hf hs rfl rfl rfl (Y_sub rfl rfl rfl) ?_; clear hf; intro a hf
          obtain ⟨q700, hi701, hm695⟩ := bind_some hm695
          obtain ⟨hi701a, hi701b, hi701q⟩ := idx_some hi701
          refine sY hf hs rfl rfl rfl (Y_index rfl rfl rfl el28 ti2 (Rd.isAt (hs.rd (i := 0) rfl) (at1 (ints_at hi701q))) hi701a (ltn hn464 hi701b)) ?_; clear hf; intro a hf
          refine sY hf hs rfl rfl rfl (Y_load_rd rfl rfl (fun w hs => hs.rd (i := 0) rfl) (at1 (ints_at hi701q)) ag2) ?_; clear hf; intro a hf
          refine sY hf hs rfl rfl rfl (Y_assign rfl rfl) ?_; clear hf; intro a hf
          refine wpO_nil ?_
          refine wpL_seq ?_
          refine wpL_seq ?_
          refine wpL_region ?_
          refine sY hf hs rfl rfl rfl (Y_assign rfl rfl) ?_; clear hf; intro a hf
          refine wpO_nil ?_
          obtain ⟨r857, hl858, hm695⟩ := bind_some hm695
          refine wpL_block (fun a w => ∃ x856 : Int, x856 = r857 ∧ Fr a 81 [(0, .pointer (some ⟨b_p0, 0, none⟩)), (1, .slice A_p1_1 p1.length c_p1_1), (5, .int .i64 (p1.length : Int)), (6, .slice A461 n462 c463), (7, .int .i64 x465), (8, .int .i64 x856)] ∧ St (muL [.blk b_p0 149 [.slice A_p0_code p0_code.length c_p0_code, .int .i64 p0_at, .int .i64 p0_seed]]) W w [.blk b_p0 149 [.slice A_p0_code p0_code.length c_p0_code, .int .i64 r698.2.1, .int .i64 r698.2.2], .row A461 n462 c463 2 1 (ints xs460)]) ?_ ?_
          · refine wpL_loop (fun n a w => ∃ x804 : Int, ∃ x805 : Int, spec_l03DrawNodes_L5 F p1 q700 n x804 x805 = some r857 ∧ Fr a 81 [(0, .pointer (some ⟨b_p0, 0, none⟩)), (1, .slice A_p1_1 p1.length c_p1_1), (5, .int .i64 (p1.length : Int)), (6, .slice A461 n462 c463), (7, .int .i64 x465), (8, .int .i64 x804), (9, .int .i64 q700), (10, .int .i64 x805)] ∧ St (muL [.blk b_p0 149 [.slice A_p0_code p0_code.length c_p0_code, .int .i64 p0_at, .int .i64 p0_seed]]) W w [.blk b_p0 149 [.slice A_p0_code p0_code.length c_p0_code, .int .i64 r698.2.1, .int .i64 r698.2.2], .row A461 n462 c463 2 1 (ints xs460)]) F ?_ ?_ ?_
            · exact ⟨r698.1, 0, hl858, (FrD.pick (FrD.pick (FrD.pick (FrD.pick (FrD.pick (FrD.pick (FrD.pick (FrD.pick hf.none hf rfl) hf rfl) hf rfl) hf rfl) hf rfl) hf rfl) hf rfl) hf rfl), hs.sel [1, 0] (by decide)⟩
            · rintro a w ⟨x804, x805, h0_, -, -⟩; simp [spec_l03DrawNodes_L5] at h0_
            · rintro n860 a w ⟨x804, x805, hm859, hf, hs⟩
              rw [spec_l03DrawNodes_L5] at hm859
              refine wpL_seq ?_
              refine wpL_seq ?_
              obtain ⟨r884, hj885, hm859⟩ := bind_some hm859
              refine wpL_cut (fun a w => ∃ b883 : Bool, b883 = r884 ∧ Fr a 81 [(0, .pointer (some ⟨b_p0, 0, none⟩)), (1, .slice A_p1_1 p1.length c_p1_1), (5, .int .i64 (p1.length : Int)), (6, .slice A461 n462 c463), (7, .int .i64 x465), (8, .int .i64 x804), (9, .int .i64 q700), (10, .int .i64 x805), (56, .bool b883)] ∧ St (muL [.blk b_p0 149 [.slice A_p0_code p0_code.length c_p0_code, .int .i64 p0_at, .int .i64 p0_seed]]) W w [.blk b_p0 149 [.slice A_p0_code p0_code.length c_p0_code, .int .i64 r698.2.1, .int .i64 r698.2.2], .row A461 n462 c463 2 1 (ints xs460)]) ?_ ?_
              · refine wpL_region ?_
                refine sY hf hs rfl rfl rfl (Y_move rfl rfl) ?_; clear hf; intro a hf
                refine sY hf hs rfl rfl rfl (Y_move rfl rfl) ?_; clear hf; intro a hf
                refine sY hf hs rfl rfl rfl (Y_lss rfl rfl rfl) ?_; clear hf; intro a hf
                refine sY hf hs rfl rfl rfl (Y_move rfl rfl) ?_; clear hf; intro a hf
                refine bsplit (decide (x805 < (p1.length : Int))) (fun hb886 => ?_) (fun hb886 => ?_)
                · have hj885 := bif_t hj885 hb886
                  refine sYg hf hs rfl rfl rfl (congrArg (fun b => some (Value.bool b)) hb886) rfl rfl rfl (Y_move rfl rfl) ?_; clear hf; intro a hf
                  refine sYg hf hs rfl rfl rfl (congrArg (fun b => some (Value.bool b)) hb886) rfl rfl rfl (Y_move rfl rfl) ?_; clear hf; intro a hf
                  refine sYg hf hs rfl rfl rfl (congrArg (fun b => some (Value.bool b)) hb886) rfl rfl rfl (Y_move rfl rfl) ?_; clear hf; intro a hf
                  obtain ⟨q887, hi888, hj885⟩ := bind_some hj885
                  obtain ⟨hi888a, hi888b, hi888q⟩ := idx_some hi888
                  obtain ⟨vs889, hv890, hr891⟩ := id h_p1_1
                  obtain ⟨A892, c893, hv894, hR895⟩ := hr891 _ _ hi888q
                  refine sYg hf hs rfl rfl rfl (congrArg (fun b => some (Value.bool b)) hb886) rfl rfl rfl (Y_index rfl rfl rfl el40 ti28 (Rd.isAt hv890.here hv894) hi888a hi888b) ?_; clear hf; intro a hf
                  refine sYg hf hs rfl rfl rfl (congrArg (fun b => some (Value.bool b)) hb886) rfl rfl rfl (Y_load_rd rfl rfl (fun w hs => hv890.at hs) (at1 hv894) ag28) ?_; clear hf; intro a hf
                  refine sYg hf hs rfl rfl rfl (congrArg (fun b => some (Value.bool b)) hb886) rfl rfl rfl (Y_lenH rfl rfl el28 rfl) ?_; clear hf; intro a hf
                  refine sYg hf hs rfl rfl rfl (congrArg (fun b => some (Value.bool b)) hb886) rfl rfl rfl (Y_lss rfl rfl rfl) ?_; clear hf; intro a hf
                  refine sY hf hs rfl rfl rfl (Y_pickT rfl (congrArg (fun b => some (Value.bool b)) hb886) rfl) ?_; clear hf; intro a hf
                  refine sY hf hs rfl rfl rfl (Y_move rfl rfl) ?_; clear hf; intro a hf
                  refine bsplit (decide (q700 < (q887.length : Int))) (fun hb896 => ?_) (fun hb896 => ?_)
                  · have hj885 := bif_t hj885 hb896
                    refine sYg hf hs rfl rfl rfl (congrArg (fun b => some (Value.bool b)) hb896) rfl rfl rfl (Y_move rfl rfl) ?_; clear hf; intro a hf
                    refine sYg hf hs rfl rfl rfl (congrArg (fun b => some (Value.bool b)) hb896) rfl rfl rfl (Y_move rfl rfl) ?_; clear hf; intro a hf
                    obtain ⟨q897, hi898, hj885⟩ := bind_some hj885
                    obtain ⟨hi898a, hi898b, hi898q⟩ := idx_some hi898
                    obtain ⟨vs899, hv900, hr901⟩ := id h_p1_1
                    obtain ⟨A902, c903, hv904, hR905⟩ := hr901 _ _ hi898q
                    refine sYg hf hs rfl rfl rfl (congrArg (fun b => some (Value.bool b)) hb896) rfl rfl rfl (Y_index rfl rfl rfl el40 ti28 (Rd.isAt hv900.here hv904) hi898a hi898b) ?_; clear hf; intro a hf
                    refine sYg hf hs rfl rfl rfl (congrArg (fun b => some (Value.bool b)) hb896) rfl rfl rfl (Y_load_rd rfl rfl (fun w hs => hv900.at hs) (at1 hv904) ag28) ?_; clear hf; intro a hf
                    refine sYg hf hs rfl rfl rfl (congrArg (fun b => some (Value.bool b)) hb896) rfl rfl rfl (Y_move rfl rfl) ?_; clear hf; intro a hf
                    obtain ⟨q906, hi907, hj885⟩ := bind_some hj885
                    obtain ⟨hi907a, hi907b, hi907q⟩ := idx_some hi907
                    refine sYg hf hs rfl rfl rfl (congrArg (fun b => some (Value.bool b)) hb896) rfl rfl rfl (Y_index rfl rfl rfl el28 ti2 (Rd.isAt (hR905.at hs) (at1 (ints_at hi907q))) hi907a hi907b) ?_; clear hf; intro a hf
                    refine sYg hf hs rfl rfl rfl (congrArg (fun b => some (Value.bool b)) hb896) rfl rfl rfl (Y_load_rd rfl rfl (fun w hs => hR905.at hs) (at1 (ints_at hi907q)) ag2) ?_; clear hf; intro a hf
                    refine sYg hf hs rfl rfl rfl (congrArg (fun b => some (Value.bool b)) hb896) rfl rfl rfl (Y_eql rfl rfl rfl) ?_; clear hf; intro a hf
                    refine sY hf hs rfl rfl rfl (Y_pickT rfl (congrArg (fun b => some (Value.bool b)) hb896) rfl) ?_; clear hf; intro a hf
                    refine wpO_nil ?_
                    refine wpL_nil (then_normal ?_)
                    exact ⟨(q906 == (-1000000000000000)), Option.some.inj hj885, (FrD.pick (FrD.pick (FrD.pick (FrD.pick (FrD.pick (FrD.pick (FrD.pick (FrD.pick (FrD.pick hf.none hf rfl) hf rfl) hf rfl) hf rfl) hf rfl) hf rfl) hf rfl) hf rfl) hf rfl), hs⟩
                  · have hj885 := bif_f hj885 hb896
                    refine sNo hf rfl rfl rfl (congrArg (fun b => some (Value.bool b)) hb896) rfl rfl rfl ?_; clear hf; intro a hf
                    refine sNo hf rfl rfl rfl (congrArg (fun b => some (Value.bool b)) hb896) rfl rfl rfl ?_; clear hf; intro a hf
                    refine sNo hf rfl rfl rfl (congrArg (fun b => some (Value.bool b)) hb896) rfl rfl rfl ?_; clear hf; intro a hf
                    refine sNo hf rfl rfl rfl (congrArg (fun b => some (Value.bool b)) hb896) rfl rfl rfl ?_; clear hf; intro a hf
                    refine sNo hf rfl rfl rfl (congrArg (fun b => some (Value.bool b)) hb896) rfl rfl rfl ?_; clear hf; intro a hf
                    refine sNo hf rfl rfl rfl (congrArg (fun b => some (Value.bool b)) hb896) rfl rfl rfl ?_; clear hf; intro a hf
                    refine sNo hf rfl rfl rfl (congrArg (fun b => some (Value.bool b)) hb896) rfl rfl rfl ?_; clear hf; intro a hf
                    refine sNo hf rfl rfl rfl (congrArg (fun b => some (Value.bool b)) hb896) rfl rfl rfl ?_; clear hf; intro a hf
                    refine sY hf hs rfl rfl rfl (Y_pickF rfl (congrArg (fun b => some (Value.bool b)) hb896) rfl) ?_; clear hf; intro a hf
                    refine wpO_nil ?_
                    refine wpL_nil (then_normal ?_)
                    exact ⟨false, Option.some.inj hj885, (FrD.pick (FrD.pick (FrD.pick (FrD.pick (FrD.pick (FrD.pick (FrD.pick (FrD.pick (FrD.pick hf.none hf rfl) hf rfl) hf rfl) hf rfl) hf rfl) hf rfl) hf rfl) hf rfl) hf rfl), hs⟩
                · have hj885 := bif_f hj885 hb886
                  refine sNo hf rfl rfl rfl (congrArg (fun b => some (Value.bool b)) hb886) rfl rfl rfl ?_; clear hf; intro a hf
                  refine sNo hf rfl rfl rfl (congrArg (fun b => some (Value.bool b)) hb886) rfl rfl rfl ?_; clear hf; intro a hf
                  refine sNo hf rfl rfl rfl (congrArg (fun b => some (Value.bool b)) hb886) rfl rfl rfl ?_; clear hf; intro a hf
                  refine sNo hf rfl rfl rfl (congrArg (fun b => some (Value.bool b)) hb886) rfl rfl rfl ?_; clear hf; intro a hf
                  refine sNo hf rfl rfl rfl (congrArg (fun b => some (Value.bool b)) hb886) rfl rfl rfl ?_; clear hf; intro a hf
                  refine sNo hf rfl rfl rfl (congrArg (fun b => some (Value.bool b)) hb886) rfl rfl rfl ?_; clear hf; intro a hf
                  refine sNo hf rfl rfl rfl (congrArg (fun b => some (Value.bool b)) hb886) rfl rfl rfl ?_; clear hf; intro a hf
                  refine sY hf hs rfl rfl rfl (Y_pickF rfl (congrArg (fun b => some (Value.bool b)) hb886) rfl) ?_; clear hf; intro a hf
                  refine sY hf hs rfl rfl rfl (Y_move rfl rfl) ?_; clear hf; intro a hf
                  refine sNo hf rfl rfl rfl rfl rfl rfl rfl ?_; clear hf; intro a hf
                  refine sNo hf rfl rfl rfl rfl rfl rfl rfl ?_; clear hf; intro a hf
                  refine sNo hf rfl rfl rfl rfl rfl rfl rfl ?_; clear hf; intro a hf
                  refine sNo hf rfl rfl rfl rfl rfl rfl rfl ?_; clear hf; intro a hf
                  refine sNo hf rfl rfl rfl rfl rfl rfl rfl ?_; clear hf; intro a hf
                  refine sNo hf rfl rfl rfl rfl rfl rfl rfl ?_; clear hf; intro a hf
                  refine sNo hf rfl rfl rfl rfl rfl rfl rfl ?_; clear hf; intro a hf
                  refine sNo hf rfl rfl rfl rfl rfl rfl rfl ?_; clear hf; intro a hf
                  refine sY hf hs rfl rfl rfl (Y_pickF rfl rfl rfl) ?_; clear hf; intro a hf
                  refine wpO_nil ?_
                  refine wpL_nil (then_normal ?_)
                  exact ⟨false, Option.some.inj hj885, (FrD.pick (FrD.pick (FrD.pick (FrD.pick (FrD.pick (FrD.pick (FrD.pick (FrD.pick (FrD.pick hf.none hf rfl) hf rfl) hf rfl) hf rfl) hf rfl) hf rfl) hf rfl) hf rfl) hf rfl), hs⟩
              · rintro a w ⟨b883, hr_, hf, hs⟩
                subst hr_
                try dsimp only at hm859
                refine wpL_cond hf rfl (fun hb908 => ?_) (fun hb908 => ?_)
                · have hm859 := bif_t hm859 hb908
                  refine wpL_skip ?_
                  refine wpL_seq ?_
                  refine wpL_block0 ?_
                  refine wpL_region ?_
                  refine sY hf hs rfl rfl rfl (Y_move rfl rfl) ?_; clear hf; intro a hf
                  refine sY hf hs rfl rfl rfl (Y_add rfl rfl rfl) ?_; clear hf; intro a hf
                  refine sY hf hs rfl rfl rfl (Y_move rfl rfl) ?_; clear hf; intro a hf
                  obtain ⟨_, hz909, hm859⟩ := bind_some hm859
                  refine sY hf hs rfl rfl rfl (Y_rem rfl rfl rfl (nz_some hz909)) ?_; clear hf; intro a hf
                  refine sY hf hs rfl rfl rfl (Y_assign rfl rfl) ?_; clear hf; intro a hf
                  refine wpO_nil ?_
                  refine wpL_nil (Qb_normal ?_)
                  refine wpL_region ?_
                  refine sY hf hs rfl rfl rfl (Y_move rfl rfl) ?_; clear hf; intro a hf
                  refine sY hf hs rfl rfl rfl (Y_add rfl rfl rfl) ?_; clear hf; intro a hf
                  refine sY hf hs rfl rfl rfl (Y_assign rfl rfl) ?_; clear hf; intro a hf
                  refine wpO_nil ?_
                  refine wpL_nil (Ql_normal ?_)
                  exact ⟨((IntKind.i64.wrap (x804 + 1)).tmod (p1.length : Int)), (IntKind.i64.wrap (x805 + 1)), hm859, (FrD.pick (FrD.pick (FrD.pick (FrD.pick (FrD.pick (FrD.pick (FrD.pick (FrD.pick hf.none hf rfl) hf rfl) hf rfl) hf rfl) hf rfl) hf rfl) hf rfl) hf rfl), hs⟩
                · have hm859 := bif_f hm859 hb908
                  refine wpL_exit (Ql_exit (Qb_exit ?_))
                  exact ⟨x804, Option.some.inj hm859, (FrD.pick (FrD.pick (FrD.pick (FrD.pick (FrD.pick (FrD.pick hf.none hf rfl) hf rfl) hf rfl) hf rfl) hf rfl) hf rfl), hs⟩
          · rintro a w ⟨x856, hr_, hf, hs⟩
            subst hr_
            try dsimp only at hm695
            refine wpL_region ?_
            refine sY hf hs rfl rfl rfl (Y_move rfl rfl) ?_; clear hf; intro a hf
            refine sY hf hs rfl rfl rfl (Y_move rfl rfl) ?_; clear hf; intro a hf
            refine sBuildSlice (parts := [(0, .tmp 64)]) (vs := [.int .i64 x856]) (cells := [.int .i64 x856]) hf hs rfl rfl rfl rfl rfl el28 ti2 rfl rfl rfl rfl ?_; clear hf hs; intro a w A911 hs hA912 hf
            have hs : St (muL [.blk b_p0 149 [.slice A_p0_code p0_code.length c_p0_code, .int .i64 p0_at, .int .i64 p0_seed]]) W w [.blk b_p0 149 [.slice A_p0_code p0_code.length c_p0_code, .int .i64 r698.2.1, .int .i64 r698.2.2], .row A461 n462 c463 2 1 (ints xs460), .row A911 1 1 2 1 (ints ([x856]))] := hs
            obtain ⟨xs915, ha916, hm695⟩ := bind_some hm695
            refine sAppendL (i := 1) (xs := xs460) (ys := [x856]) (enc := ints) hf hs rfl rfl rfl rfl rfl rfl hn464 rfl rfl ha916 el28 ti2 rfl rfl rfl (hs.rd (i := 2) rfl) (Nat.succ_pos _) ints_len1 ints_append ints_one ?_; clear hf hs; intro a w A913 c914 hs hf
            have hs : St (muL [.blk b_p0 149 [.slice A_p0_code p0_code.length c_p0_code, .int .i64 p0_at, .int .i64 p0_seed]]) W w [.blk b_p0 149 [.slice A_p0_code p0_code.length c_p0_code, .int .i64 r698.2.1, .int .i64 r698.2.2], .row A913 xs915.length c914 2 1 (ints xs915), .row A911 1 1 2 1 (ints ([x856]))] := hs
            refine sY hf hs rfl rfl rfl (Y_assign rfl rfl) ?_; clear hf; intro a hf
            refine wpO_nil ?_
            refine wpL_nil (Qb_normal ?_)
            refine wpL_region ?_
            refine sY hf hs rfl rfl rfl (Y_move rfl rfl) ?_; clear hf; intro a hf
            refine sY hf hs rfl rfl rfl (Y_sub rfl rfl rfl) ?_; clear hf; intro a hf
            refine sY hf hs rfl rfl rfl (Y_assign rfl rfl) ?_; clear hf; intro a hf
            refine wpO_nil ?_
            refine wpL_nil (Ql_normal ?_)
            exact ⟨r698.2.1, r698.2.2, xs915, (IntKind.i64.wrap (x465 - 1)), A913, xs915.length, c914, hm695, rfl, (FrD.pick (FrD.pick (FrD.pick (FrD.pick (FrD.pick hf.none hf rfl) hf rfl) hf rfl) hf rfl) hf rfl), hs.sel [0, 1] (by decide)⟩
        · have hm695 := bif_f hm695 hb697
          refine wpL_exit (Ql_exit (Qb_exit ?_))
          exact ⟨x458, x459, xs460, A461, n462, c463, Option.some.inj hm695, hn464, (FrD.pick (FrD.pick (FrD.pick hf.none hf rfl) hf rfl) hf rfl), hs⟩
    · rintro a w ⟨x686, x687, xs688, A689, n690, c691, hr_, hn692, hf, hs⟩
      subst hr_
      try dsimp only at hm
      refine wpL_seq ?_
      refine wpL_seq ?_
      refine wpL_region ?_
      refine sY hf hs rfl rfl rfl (Y_move rfl rfl) ?_; clear hf; intro a hf
      obtain ⟨r917, hc918, hm⟩ := bind_some hm
      refine sCall hf rfl rfl rfl rfl (cap := []) rfl rfl en93 (spec_l01Next_ok F b_p0 p0_code A_p0_code p0_code.length c_p0_code rfl x686 x687 40 _ _ hc918 (h_p0_code.pass hs [0]) (hs.sel [0] (by decide)).rebase) ?_; clear hf
      rintro _ w ⟨rfl, hs1⟩ a hf
      have hs : St (muL [.blk b_p0 149 [.slice A_p0_code p0_code.length c_p0_code, .int .i64 p0_at, .int .i64 p0_seed]]) W w [.row A689 n690 c691 2 1 (ints xs688), .blk b_p0 149 [.slice A_p0_code p0_code.length c_p0_code, .int .i64 r917.2.1, .int .i64 r917.2.2]] := St.mutTail (La := [.row A689 n690 c691 2 1 (ints xs688)]) (Lb := [.blk b_p0 149 [.slice A_p0_code p0_code.length c_p0_code, .int .i64 x686, .int .i64 x687]]) (hs.sel [1, 0] (by decide)) hs1
      clear hs1
      refine wpO_nil ?_
      refine wpL_block0 ?_
      refine wpL_seq ?_
      refine wpL_region ?_
      refine sY hf hs rfl rfl rfl (Y_eql rfl rfl rfl) ?_; clear hf; intro a hf
      refine sY hf hs rfl rfl rfl (Y_assign rfl rfl) ?_; clear hf; intro a hf
      refine wpO_nil ?_
      refine wpL_cond hf rfl (fun hb919 => ?_) (fun hb919 => ?_)
      · have hm := bif_t hm hb919
        refine wpL_seq ?_
        refine wpL_region ?_
        refine sY hf hs rfl rfl rfl (Y_move rfl rfl) ?_; clear hf; intro a hf
        refine sY hf hs rfl rfl rfl (Y_move rfl rfl) ?_; clear hf; intro a hf
        refine sY hf hs rfl rfl rfl (Y_move rfl rfl) ?_; clear hf; intro a hf
        refine sBuildSlice (parts := [(0, .const (.int .i64 (-1))), (1, .tmp 73)]) (vs := [.int .i64 (-1), .int .i64 (p1.length : Int)]) (cells := [.int .i64 (-1), .int .i64 (p1.length : Int)]) hf hs rfl rfl rfl rfl rfl el28 ti2 rfl rfl rfl rfl ?_; clear hf hs; intro a w A920 hs hA921 hf
        have hs : St (muL [.blk b_p0 149 [.slice A_p0_code p0_code.length c_p0_code, .int .i64 p0_at, .int .i64 p0_seed]]) W w [.row A689 n690 c691 2 1 (ints xs688), .blk b_p0 149 [.slice A_p0_code p0_code.length c_p0_code, .int .i64 r917.2.1, .int .i64 r917.2.2], .row A920 2 2 2 1 (ints ([(-1), (p1.length : Int)]))] := hs
        obtain ⟨r922, hc923, hm⟩ := bind_some hm
        refine sCall hf rfl rfl rfl rfl (cap := []) rfl rfl en109 (spec_l01Pick_ok F b_p0 p0_code A_p0_code p0_code.length c_p0_code rfl r917.2.1 r917.2.2 ([(-1), (p1.length : Int)]) A920 2 2 rfl _ _ hc923 (h_p0_code.pass hs [1]) (hs.keepR (i := 2) rfl [1] (by decide)) (hs.sel [1] (by decide)).rebase) ?_; clear hf
        rintro _ w ⟨rfl, hs1⟩ a hf
        have hs : St (muL [.blk b_p0 149 [.slice A_p0_code p0_code.length c_p0_code, .int .i64 p0_at, .int .i64 p0_seed]]) W w [.row A689 n690 c691 2 1 (ints xs688), .row A920 2 2 2 1 (ints ([(-1), (p1.length : Int)])), .blk b_p0 149 [.slice A_p0_code p0_code.length c_p0_code, .int .i64 r922.2.1, .int .i64 r922.2.2]] := St.mutTail (La := [.row A689 n690 c691 2 1 (ints xs688), .row A920 2 2 2 1 (ints ([(-1), (p1.length : Int)]))]) (Lb := [.blk b_p0 149 [.slice A_p0_code p0_code.length c_p0_code, .int .i64 r917.2.1, .int .i64 r917.2.2]]) (hs.sel [0, 2, 1] (by decide)) hs1
        clear hs1
        refine sBuildSlice (parts := [(0, .tmp 75)]) (vs := [.int .i64 r922.1]) (cells := [.int .i64 r922.1]) hf hs rfl rfl rfl rfl rfl el28 ti2 rfl rfl rfl rfl ?_; clear hf hs; intro a w A924 hs hA925 hf
        have hs : St (muL [.blk b_p0 149 [.slice A_p0_code p0_code.length c_p0_code, .int .i64 p0_at, .int .i64 p0_seed]]) W w [.row A689 n690 c691 2 1 (ints xs688), .row A920 2 2 2 1 (ints ([(-1), (p1.length : Int)])), .blk b_p0 149 [.slice A_p0_code p0_code.length c_p0_code, .int .i64 r922.2.1, .int .i64 r922.2.2], .row A924 1 1 2 1 (ints ([r922.1]))] := hs
        obtain ⟨xs928, ha929, hm⟩ := bind_some hm
        refine sAppendL (i := 0) (xs := xs688) (ys := [r922.1]) (enc := ints) hf hs rfl rfl rfl rfl rfl rfl hn692 rfl rfl ha929 el28 ti2 rfl rfl rfl (hs.rd (i := 3) rfl) (Nat.succ_pos _) ints_len1 ints_append ints_one ?_; clear hf hs; intro a w A926 c927 hs hf
        have hs : St (muL [.blk b_p0 149 [.slice A_p0_code p0_code.length c_p0_code, .int .i64 p0_at, .int .i64 p0_seed]]) W w [.row A926 xs928.length c927 2 1 (ints xs928), .row A920 2 2 2 1 (ints ([(-1), (p1.length : Int)])), .blk b_p0 149 [.slice A_p0_code p0_code.length c_p0_code, .int .i64 r922.2.1, .int .i64 r922.2.2], .row A924 1 1 2 1 (ints ([r922.1]))] := hs
        refine sY hf hs rfl rfl rfl (Y_assign rfl rfl) ?_; clear hf; intro a hf
        refine wpO_nil ?_
        obtain rfl := Option.some.inj hm
        refine wpL_ret (Qb_ret (ret_tmp rfl hf rfl ?_))
        exact ⟨_, rfl, A926, xs928.length, c927, rfl, rfl, hs.sel [0, 2] (by decide)⟩
      · have hm := bif_f hm hb919
        refine wpL_seq ?_
        refine wpL_region ?_
        refine sY hf hs rfl rfl rfl (Y_eql rfl rfl rfl) ?_; clear hf; intro a hf
        refine sY hf hs rfl rfl rfl (Y_assign rfl rfl) ?_; clear hf; intro a hf
        refine wpO_nil ?_
        refine wpL_cond hf rfl (fun hb930 => ?_) (fun hb930 => ?_)
        · have hm := bif_t hm hb930
          refine wpL_seq ?_
          refine wpL_region ?_
          refine sY hf hs rfl rfl rfl (Y_assign rfl rfl) ?_; clear hf; intro a hf
          refine wpO_nil ?_
          have hs : St (muL [.blk b_p0 149 [.slice A_p0_code p0_code.length c_p0_code, .int .i64 p0_at, .int .i64 p0_seed]]) W _ [.row A689 n690 c691 2 1 (ints xs688), .blk b_p0 149 [.slice A_p0_code p0_code.length c_p0_code, .int .i64 r917.2.1, .int .i64 r917.2.2], .row none 0 0 2 1 (ints ([] : List Int))] := hs.addNil 2 1
          obtain rfl := Option.some.inj hm
          refine wpL_ret (Qb_ret (ret_tmp rfl hf rfl ?_))
          exact ⟨_, rfl, none, 0, 0, rfl, rfl, hs.sel [2, 1] (by decide)⟩
        · have hm := bif_f hm hb930
          refine wpL_skip ?_
          refine wpL_nil (Qb_normal ?_)
          refine wpL_seq ?_
          refine wpL_region ?_
          refine sY hf hs rfl rfl rfl (Y_move rfl rfl) ?_; clear hf; intro a hf
          refine sY hf hs rfl rfl rfl (Y_assign rfl rfl) ?_; clear hf; intro a hf
          refine wpO_nil ?_
          obtain rfl := Option.some.inj hm
          refine wpL_ret (ret_tmp rfl hf rfl ?_)
          exact ⟨_, rfl, A689, n690, c691, rfl, hn692, hs⟩

set_option maxRecDepth 100000 in
theorem spec_l03DrawCycle_ok (F : Nat) (b_p0_s : Nat) (p0_s_code : List Int) (A_p0_s_code : Option Addr) (n_p0_s_code c_p0_s_code : Nat) (hn_p0_s_code : n_p0_s_code = p0_s_code.length) (p0_s_at : Int) (p0_s_seed : Int) (p1_a : List (List Int)) (A_p1_a_1 : Option Addr) (n_p1_a_1 c_p1_a_1 : Nat) (hn_p1_a_1 : n_p1_a_1 = p1_a.length) (r : (List Int) × Int × Int) (W : World) (hm : spec_l03DrawCycle F p0_s_code p0_s_at p0_s_seed p1_a = some r) (h_p0_s_code : KR (muL [.blk b_p0_s 149 [.slice A_p0_s_code n_p0_s_code c_p0_s_code, .int .i64 p0_s_at, .int .i64 p0_s_seed]]) W A_p0_s_code (bytes p0_s_code)) (h_p1_a_1 : KM (muL [.blk b_p0_s 149 [.slice A_p0_s_code n_p0_s_code c_p0_s_code, .int .i64 p0_s_at, .int .i64 p0_s_seed]]) W A_p1_a_1 p1_a) (hst : St (muL [.blk b_p0_s 149 [.slice A_p0_s_code n_p0_s_code c_p0_s_code, .int .i64 p0_s_at, .int .i64 p0_s_seed]]) W W [.blk b_p0_s 149 [.slice A_p0_s_code n_p0_s_code c_p0_s_code, .int .i64 p0_s_at, .int .i64 p0_s_seed]]) :
    Calls Try.prog 99 [.pointer (some ⟨b_p0_s, 0, none⟩), .slice A_p1_a_1 n_p1_a_1 c_p1_a_1].toArray W fun e w' => ∃ v, e = .returned v ∧ ∃ A110, ∃ n111, ∃ c112, v = .slice A110 n111 c112 ∧ n111 = r.1.length ∧ St (muL [.blk b_p0_s 149 [.slice A_p0_s_code n_p0_s_code c_p0_s_code, .int .i64 p0_s_at, .int .i64 p0_s_seed]]) W w' [.row A110 n111 c112 2 1 (ints r.1), .blk b_p0_s 149 [.slice A_p0_s_code n_p0_s_code c_p0_s_code, .int .i64 r.2.1, .int .i64 r.2.2]] := by
  subst hn_p0_s_code
  subst hn_p1_a_1
  unfold spec_l03DrawCycle at hm
  refine Calls.enter (N := 37) Try.func99 rfl rfl rfl (fun a hf => ?_)
  have hs := hst
  obtain ⟨w, hw_⟩ : ∃ w, w = W := ⟨W, rfl⟩
  clear hw_ w
  refine wpL_seq ?_
  refine wpL_region ?_
  refine sY hf hs rfl rfl rfl (Y_assign rfl rfl) ?_; clear hf; intro a hf
  refine wpO_nil ?_
  refine wpL_seq ?_
  refine wpL_seq ?_
  obtain ⟨r9, hj10, hm⟩ := bind_some hm
  refine wpL_cut (fun a w => ∃ x6 : Int, ∃ x7 : Int, ∃ b8 : Bool, (x6, x7, b8) = r9 ∧ Fr a 37 [(0, .pointer (some ⟨b_p0_s, 0, none⟩)), (1, .slice A_p1_a_1 p1_a.length c_p1_a_1), (13, .bool b8)] ∧ St (muL [.blk b_p0_s 149 [.slice A_p0_s_code p0_s_code.length c_p0_s_code, .int .i64 p0_s_at, .int .i64 p0_s_seed]]) W w [.blk b_p0_s 149 [.slice A_p0_s_code p0_s_code.length c_p0_s_code, .int .i64 x6, .int .i64 x7]]) ?_ ?_
  · refine wpL_region ?_
    refine sY hf hs rfl rfl rfl (Y_move rfl rfl) ?_; clear hf; intro a hf
    obtain ⟨r11, hc12, hj10⟩ := bind_some hj10
    refine sCall hf rfl rfl rfl rfl (cap := []) rfl rfl en82 (spec_l02Square_ok F p1_a A_p1_a_1 p1_a.length c_p1_a_1 rfl _ _ hc12 (h_p1_a_1.at hs)) ?_; clear hf
    rintro _ w ⟨rfl, hs1⟩ a hf
    have hs : St (muL [.blk b_p0_s 149 [.slice A_p0_s_code p0_s_code.length c_p0_s_code, .int .i64 p0_s_at, .int .i64 p0_s_seed]]) W w [.blk b_p0_s 149 [.slice A_p0_s_code p0_s_code.length c_p0_s_code, .int .i64 p0_s_at, .int .i64 p0_s_seed]] := hs.ext hs1.below
    clear hs1
    refine sY hf hs rfl rfl rfl (Y_move rfl rfl) ?_; clear hf; intro a hf
    refine bsplit r11 (fun hb13 => ?_) (fun hb13 => ?_)
    · have hj10 := bif_t hj10 hb13
      refine sYg hf hs rfl rfl rfl (congrArg (fun b => some (Value.bool b)) hb13) rfl rfl rfl (Y_move rfl rfl) ?_; clear hf; intro a hf
      obtain ⟨r14, hc15, hj10⟩ := bind_some hj10
      refine sCallg hf rfl rfl rfl (congrArg (fun b => some (Value.bool b)) hb13) rfl rfl rfl rfl (cap := []) rfl rfl en93 (spec_l01Next_ok F b_p0_s p0_s_code A_p0_s_code p0_s_code.length c_p0_s_code rfl p0_s_at p0_s_seed 4 _ _ hc15 (h_p0_s_code.pass hs [0]) (hs.sel [0] (by decide)).rebase) ?_; clear hf
      rintro _ w ⟨rfl, hs1⟩ a hf
      have hs : St (muL [.blk b_p0_s 149 [.slice A_p0_s_code p0_s_code.length c_p0_s_code, .int .i64 p0_s_at, .int .i64 p0_s_seed]]) W w [.blk b_p0_s 149 [.slice A_p0_s_code p0_s_code.length c_p0_s_code, .int .i64 r14.2.1, .int .i64 r14.2.2]] := St.mutTail (La := []) (Lb := [.blk b_p0_s 149 [.slice A_p0_s_code p0_s_code.length c_p0_s_code, .int .i64 p0_s_at, .int .i64 p0_s_seed]]) (hs.sel [0] (by decide)) hs1
      clear hs1
      refine sYg hf hs rfl rfl rfl (congrArg (fun b => some (Value.bool b)) hb13) rfl rfl rfl (Y_gtr rfl rfl rfl) ?_; clear hf; intro a hf
      refine sY hf hs rfl rfl rfl (Y_pickT rfl (congrArg (fun b => some (Value.bool b)) hb13) rfl) ?_; clear hf; intro a hf
      refine wpO_nil ?_
      refine wpL_nil (then_normal ?_)
      exact ⟨r14.2.1, r14.2.2, (decide (0 < r14.1)), Option.some.inj hj10, (FrD.pick (FrD.pick (FrD.pick hf.none hf rfl) hf rfl) hf rfl), hs⟩
    · have hj10 := bif_f hj10 hb13
      refine sNo hf rfl rfl rfl (congrArg (fun b => some (Value.bool b)) hb13) rfl rfl rfl ?_; clear hf; intro a hf
      refine sNo hf rfl rfl rfl (congrArg (fun b => some (Value.bool b)) hb13) rfl rfl rfl ?_; clear hf; intro a hf
      refine sNo hf rfl rfl rfl (congrArg (fun b => some (Value.bool b)) hb13) rfl rfl rfl ?_; clear hf; intro a hf
      refine sY hf hs rfl rfl rfl (Y_pickF rfl (congrArg (fun b => some (Value.bool b)) hb13) rfl) ?_; clear hf; intro a hf
      refine wpO_nil ?_
      refine wpL_nil (then_normal ?_)
      exact ⟨p0_s_at, p0_s_seed, false, Option.some.inj hj10, (FrD.pick (FrD.pick (FrD.pick hf.none hf rfl) hf rfl) hf rfl), hs⟩
  · rintro a w ⟨x6, x7, b8, hr_, hf, hs⟩
    subst hr_
    try dsimp only at hm
    obtain ⟨r60, hj61, hm⟩ := bind_some hm
    refine wpL_cut (fun a w => ∃ x58 : Int, ∃ x59 : Int, Sum.inr (x58, x59) = r60 ∧ Fr a 37 [(0, .pointer (some ⟨b_p0_s, 0, none⟩)), (1, .slice A_p1_a_1 p1_a.length c_p1_a_1)] ∧ St (muL [.blk b_p0_s 149 [.slice A_p0_s_code p0_s_code.length c_p0_s_code, .int .i64 p0_s_at, .int .i64 p0_s_seed]]) W w [.blk b_p0_s 149 [.slice A_p0_s_code p0_s_code.length c_p0_s_code, .int .i64 x58, .int .i64 x59]]) ?_ ?_
    · refine wpL_cond hf rfl (fun hb62 => ?_) (fun hb62 => ?_)
      · have hj61 := bif_t hj61 hb62
        refine wpL_seq ?_
        refine wpL_region ?_
        refine sY hf hs rfl rfl rfl (Y_move rfl rfl) ?_; clear hf; intro a hf
        refine sY hf hs rfl rfl rfl (Y_move rfl rfl) ?_; clear hf; intro a hf
        refine sBuildSlice (parts := [(0, .const (.int .i64 (-1000000000000000))), (1, .const (.int .i64 (-20))), (2, .const (.int .i64 (-5))), (3, .const (.int .i64 0))]) (vs := [.int .i64 (-1000000000000000), .int .i64 (-20), .int .i64 (-5), .int .i64 0]) (cells := [.int .i64 (-1000000000000000), .int .i64 (-20), .int .i64 (-5), .int .i64 0]) hf hs rfl rfl rfl rfl rfl el28 ti2 rfl rfl rfl rfl ?_; clear hf hs; intro a w A63 hs hA64 hf
        have hs : St (muL [.blk b_p0_s 149 [.slice A_p0_s_code p0_s_code.length c_p0_s_code, .int .i64 p0_s_at, .int .i64 p0_s_seed]]) W w [.blk b_p0_s 149 [.slice A_p0_s_code p0_s_code.length c_p0_s_code, .int .i64 x6, .int .i64 x7], .row A63 4 4 2 1 (ints ([(-1000000000000000), (-20), (-5), 0]))] := hs
        obtain ⟨r65, hc66, hj61⟩ := bind_some hj61
        refine sCall hf rfl rfl rfl rfl (cap := []) rfl rfl en109 (spec_l01Pick_ok F b_p0_s p0_s_code A_p0_s_code p0_s_code.length c_p0_s_code rfl x6 x7 ([(-1000000000000000), (-20), (-5), 0]) A63 4 4 rfl _ _ hc66 (h_p0_s_code.pass hs [0]) (hs.keepR (i := 1) rfl [0] (by decide)) (hs.sel [0] (by decide)).rebase) ?_; clear hf
        rintro _ w ⟨rfl, hs1⟩ a hf
        have hs : St (muL [.blk b_p0_s 149 [.slice A_p0_s_code p0_s_code.length c_p0_s_code, .int .i64 p0_s_at, .int .i64 p0_s_seed]]) W w [.row A63 4 4 2 1 (ints ([(-1000000000000000), (-20), (-5), 0])), .blk b_p0_s 149 [.slice A_p0_s_code p0_s_code.length c_p0_s_code, .int .i64 r65.2.1, .int .i64 r65.2.2]] := St.mutTail (La := [.row A63 4 4 2 1 (ints ([(-1000000000000000), (-20), (-5), 0]))]) (Lb := [.blk b_p0_s 149 [.slice A_p0_s_code p0_s_code.length c_p0_s_code, .int .i64 x6, .int .i64 x7]]) (hs.sel [1, 0] (by decide)) hs1
        clear hs1
        obtain ⟨r67, hc68, hj61⟩ := bind_some hj61
        refine sCall hf rfl rfl rfl rfl (cap := []) rfl rfl en89 (spec_l03Over_ok F p1_a A_p1_a_1 p1_a.length c_p1_a_1 rfl r65.1 _ _ hc68 (h_p1_a_1.at hs)) ?_; clear hf
        rintro _ w ⟨A69, n70, c71, rfl, hn72, hs1⟩ a hf
        have hs : St (muL [.blk b_p0_s 149 [.slice A_p0_s_code p0_s_code.length c_p0_s_code, .int .i64 p0_s_at, .int .i64 p0_s_seed]]) W w [.row A63 4 4 2 1 (ints ([(-1000000000000000), (-20), (-5), 0])), .blk b_p0_s 149 [.slice A_p0_s_code p0_s_code.length c_p0_s_code, .int .i64 r65.2.1, .int .i64 r65.2.2], .row A69 n70 c71 2 1 (ints r67)] := hs.join hs1
        clear hs1
        refine sY hf hs rfl rfl rfl (Y_assign rfl rfl) ?_; clear hf; intro a hf
        refine wpO_nil ?_
        refine wpL_seq ?_
        refine wpL_region ?_
        refine sY hf hs rfl rfl rfl (Y_move rfl rfl) ?_; clear hf; intro a hf
        refine sY hf hs rfl rfl rfl (Y_lenH rfl rfl el28 hn72) ?_; clear hf; intro a hf
        refine sY hf hs rfl rfl rfl (Y_gtr rfl rfl rfl) ?_; clear hf; intro a hf
        refine wpO_nil ?_
        refine wpL_cond hf rfl (fun hb73 => ?_) (fun hb73 => ?_)
        · have hj61 := bif_t hj61 hb73
          refine wpL_seq ?_
          refine wpL_region ?_
          refine sY hf hs rfl rfl rfl (Y_move rfl rfl) ?_; clear hf; intro a hf
          refine sY hf hs rfl rfl rfl (Y_move rfl rfl) ?_; clear hf; intro a hf
          refine sY hf hs rfl rfl rfl (Y_lenH rfl rfl el28 hn72) ?_; clear hf; intro a hf
          obtain ⟨r74, hc75, hj61⟩ := bind_some hj61
          refine sCall hf rfl rfl rfl rfl (cap := []) rfl rfl en93 (spec_l01Next_ok F b_p0_s p0_s_code A_p0_s_code p0_s_code.length c_p0_s_code rfl r65.2.1 r65.2.2 (r67.length : Int) _ _ hc75 (h_p0_s_code.pass hs [1]) (hs.sel [1] (by decide)).rebase) ?_; clear hf
          rintro _ w ⟨rfl, hs1⟩ a hf
          have hs : St (muL [.blk b_p0_s 149 [.slice A_p0_s_code p0_s_code.length c_p0_s_code, .int .i64 p0_s_at, .int .i64 p0_s_seed]]) W w [.row A63 4 4 2 1 (ints ([(-1000000000000000), (-20), (-5), 0])), .row A69 n70 c71 2 1 (ints r67), .blk b_p0_s 149 [.slice A_p0_s_code p0_s_code.length c_p0_s_code, .int .i64 r74.2.1, .int .i64 r74.2.2]] := St.mutTail (La := [.row A63 4 4 2 1 (ints ([(-1000000000000000), (-20), (-5), 0])), .row A69 n70 c71 2 1 (ints r67)]) (Lb := [.blk b_p0_s 149 [.slice A_p0_s_code p0_s_code.length c_p0_s_code, .int .i64 r65.2.1, .int .i64 r65.2.2]]) (hs.sel [0, 2, 1] (by decide)) hs1
          clear hs1
          refine sY hf hs rfl rfl rfl (Y_assign rfl rfl) ?_; clear hf; intro a hf
          refine wpO_nil ?_
          refine wpL_seq ?_
          refine wpL_drawM [.row A63 4 4 2 1 (ints ([(-1000000000000000), (-20), (-5), 0])), .row A69 n70 c71 2 1 (ints r67), .blk b_p0_s 149 [.slice A_p0_s_code p0_s_code.length c_p0_s_code, .int .i64 r74.2.1, .int .i64 r74.2.2]] [7] (by kernel_rfl) hs ?_; clear hs; intro w hs
          have hs0 : St (muL [.blk b_p0_s 149 [.slice A_p0_s_code p0_s_code.length c_p0_s_code, .int .i64 p0_s_at, .int .i64 p0_s_seed]]) W w [.row A63 4 4 2 1 (ints ([(-1000000000000000), (-20), (-5), 0])), .row A69 n70 c71 2 1 (ints r67), .blk b_p0_s 149 [.slice A_p0_s_code p0_s_code.length c_p0_s_code, .int .i64 r74.2.1, .int .i64 r74.2.2]] := hs
          refine mYp (i := 0) rfl (by kernel_rfl) (by kernel_rfl) hf rfl rfl rfl (fun _ => Y_move rfl rfl) ?_; clear hf; intro a hf
          refine mYp (i := 1) rfl (by kernel_rfl) (by kernel_rfl) hf rfl rfl rfl (fun _ => Y_move rfl rfl) ?_; clear hf; intro a hf
          obtain ⟨xs91, hk90, hj61⟩ := bind_some hj61
          refine mY (i := 2) [[3]] rfl (by kernel_rfl) (by kernel_rfl) hf hs0 rfl rfl rfl (Y_sliceL rfl rfl rfl (cutFrom_some hk90).1 (leN hn72 (cutFrom_some hk90).2.1) el28 ti2) ?_; clear hf; intro a hf
          refine mYp (i := 4) rfl (by kernel_rfl) (by kernel_rfl) hf rfl rfl rfl (fun _ => Y_move rfl rfl) ?_; clear hf; intro a hf
          refine mYp (i := 5) rfl (by kernel_rfl) (by kernel_rfl) hf rfl rfl rfl (fun _ => Y_move rfl rfl) ?_; clear hf; intro a hf
          obtain ⟨xs93, hk92, hj61⟩ := bind_some hj61
          refine mY (i := 6) [[]] rfl (by kernel_rfl) (by kernel_rfl) hf hs0 rfl rfl rfl (Y_sliceH rfl rfl rfl (cutTo_some hk92).1 (leC hn72 (hs0.capR (i := 1) rfl) hk92) el28 ti2) ?_; clear hf; intro a hf
          refine mRun (i := 3) rfl (by kernel_rfl) ?_
          obtain ⟨r94, hc95, hj61⟩ := bind_some hj61
          refine sCall hf rfl rfl rfl rfl (cap := []) rfl rfl en114 (spec_l01Own_ok F xs91 (cutA A69 c71 (r74.1 : Int).toNat 1) (n70 - (r74.1 : Int).toNat) (c71 - (r74.1 : Int).toNat) (cut_len hn72 hk90) _ _ hc95 (Rd.cutInts (hs.rd (i := 1) rfl) hn72 (hs.capR (i := 1) rfl) hk90)) ?_; clear hf
          rintro _ w ⟨A96, n97, c98, rfl, hn99, hs1⟩ a hf
          have hs : St (muL [.blk b_p0_s 149 [.slice A_p0_s_code p0_s_code.length c_p0_s_code, .int .i64 p0_s_at, .int .i64 p0_s_seed]]) W w [.row A63 4 4 2 1 (ints ([(-1000000000000000), (-20), (-5), 0])), .row A69 n70 c71 2 1 (ints r67), .blk b_p0_s 149 [.slice A_p0_s_code p0_s_code.length c_p0_s_code, .int .i64 r74.2.1, .int .i64 r74.2.2], .row A96 n97 c98 2 1 (ints r94)] := hs.join hs1
          clear hs1
          have hs0 : St (muL [.blk b_p0_s 149 [.slice A_p0_s_code p0_s_code.length c_p0_s_code, .int .i64 p0_s_at, .int .i64 p0_s_seed]]) W w [.row A63 4 4 2 1 (ints ([(-1000000000000000), (-20), (-5), 0])), .row A69 n70 c71 2 1 (ints r67), .blk b_p0_s 149 [.slice A_p0_s_code p0_s_code.length c_p0_s_code, .int .i64 r74.2.1, .int .i64 r74.2.2]] := hs.sel [0, 1, 2] (by decide)
          refine wpO_nil ⟨Or.inr (fun _ => hs0), ?_⟩
          refine mRun (i := 7) rfl (by kernel_rfl) ?_
          obtain ⟨xs102, ha103, hj61⟩ := bind_some hj61
          refine sAppendG (i := 3) (xs := r94) (ys := xs93) (enc := ints) hf hs rfl rfl rfl rfl rfl rfl hn99 (pre_len hk92) rfl ha103 el28 ti2 rfl rfl rfl (Rd.preInts (hs.rd (i := 1) rfl) hk92) ints_len1 ints_append ints_one ?_; clear hf hs; intro a w A100 c101 hs hf
          have hs : St (muL [.blk b_p0_s 149 [.slice A_p0_s_code p0_s_code.length c_p0_s_code, .int .i64 p0_s_at, .int .i64 p0_s_seed]]) W w [.row A63 4 4 2 1 (ints ([(-1000000000000000), (-20), (-5), 0])), .row A69 n70 c71 2 1 (ints r67), .blk b_p0_s 149 [.slice A_p0_s_code p0_s_code.length c_p0_s_code, .int .i64 r74.2.1, .int .i64 r74.2.2], .row A100 xs102.length c101 2 1 (ints xs102)] := hs
          refine wpO_nil ⟨Or.inl (by decide), ?_⟩
          refine mYp (i := 8) rfl (by kernel_rfl) (by kernel_rfl) hf rfl rfl rfl (fun _ => Y_assign rfl rfl) ?_; clear hf; intro a hf
          refine mDone (by kernel_rfl) ?_
          clear hs0
          obtain rfl := Option.some.inj hj61
          try dsimp only at hm
          obtain rfl := Option.some.inj hm
          refine wpL_ret (then_ret (ret_tmp rfl hf rfl ?_))
          exact ⟨_, rfl, A100, xs102.length, c101, rfl, rfl, hs.sel [3, 2] (by decide)⟩
        · have hj61 := bif_f hj61 hb73
          refine wpL_skip ?_
          refine wpL_nil (then_normal ?_)
          exact ⟨r65.2.1, r65.2.2, Option.some.inj hj61, (FrD.pick (FrD.pick hf.none hf rfl) hf rfl), hs.sel [1] (by decide)⟩
      · have hj61 := bif_f hj61 hb62
        refine wpL_skip ?_
        refine wpL_nil (then_normal ?_)
        exact ⟨x6, x7, Option.some.inj hj61, (FrD.pick (FrD.pick hf.none hf rfl) hf rfl), hs⟩
    · rintro a w ⟨x58, x59, hr_, hf, hs⟩
      subst hr_
      try dsimp only at hm
      refine wpL_seq ?_
      refine wpL_region ?_
      refine sY hf hs rfl rfl rfl (Y_move rfl rfl) ?_; clear hf; intro a hf
      refine sY hf hs rfl rfl rfl (Y_move rfl rfl) ?_; clear hf; intro a hf
      obtain ⟨r104, hc105, hm⟩ := bind_some hm
      refine sCall hf rfl rfl rfl rfl (cap := []) rfl rfl en169 (spec_l03DrawNodes_ok F b_p0_s p0_s_code A_p0_s_code p0_s_code.length c_p0_s_code rfl x58 x59 p1_a A_p1_a_1 p1_a.length c_p1_a_1 rfl _ _ hc105 (h_p0_s_code.pass hs [0]) (h_p1_a_1.pass hs [0]) (hs.sel [0] (by decide)).rebase) ?_; clear hf
      rintro _ w ⟨A106, n107, c108, rfl, hn109, hs1⟩ a hf
      have hs : St (muL [.blk b_p0_s 149 [.slice A_p0_s_code p0_s_code.length c_p0_s_code, .int .i64 p0_s_at, .int .i64 p0_s_seed]]) W w [.row A106 n107 c108 2 1 (ints r104.1), .blk b_p0_s 149 [.slice A_p0_s_code p0_s_code.length c_p0_s_code, .int .i64 r104.2.1, .int .i64 r104.2.2]] := St.mutTail (La := []) (Lb := [.blk b_p0_s 149 [.slice A_p0_s_code p0_s_code.length c_p0_s_code, .int .i64 x58, .int .i64 x59]]) (hs.sel [0] (by decide)) hs1
      clear hs1
      refine sY hf hs rfl rfl rfl (Y_assign rfl rfl) ?_; clear hf; intro a hf
      refine wpO_nil ?_
      obtain rfl := Option.some.inj hm
      refine wpL_ret (ret_tmp rfl hf rfl ?_)
      exact ⟨_, rfl, A106, n107, c108, rfl, hn109, hs⟩

set_option maxRecDepth 100000 in
theorem spec_DrawIsCycle_ok (F : Nat) (p0_code : List Int) (A_p0_code_1 : Option Addr) (n_p0_code_1 c_p0_code_1 : Nat) (hn_p0_code_1 : n_p0_code_1 = p0_code.length) (r : List (List Int) × List Int) (W : World) (hm : spec_DrawIsCycle F p0_code = some r) (h_p0_code_1 : Rd W A_p0_code_1 (bytes p0_code)) :
    Calls Try.prog 38 [.slice A_p0_code_1 n_p0_code_1 c_p0_code_1].toArray W fun e w' => ∃ v, e = .returned v ∧ ∃ A17, ∃ n18, ∃ c19, ∃ vs21, ∃ A22, ∃ n23, ∃ c24, v = .tuple #[.slice A17 n18 c19, .slice A22 n23 c24] ∧ n18 = r.1.length ∧ n23 = r.2.length ∧ St [] W w' [.mat A17 n18 c19 28 2 vs21 r.1, .row A22 n23 c24 2 1 (ints r.2)] := by
  subst hn_p0_code_1
  unfold spec_DrawIsCycle at hm
  refine Calls.enter (N := 14) Try.func38 rfl rfl rfl (fun a hf => ?_)
  have hs := St.start W
  obtain ⟨w, hw_⟩ : ∃ w, w = W := ⟨W, rfl⟩
  clear hw_ w
  refine wpL_seq ?_
  refine wpL_region ?_
  refine sY hf hs rfl rfl rfl (Y_assign rfl rfl) ?_; clear hf; intro a hf
  refine sY hf hs rfl rfl rfl (Y_assign rfl rfl) ?_; clear hf; intro a hf
  refine wpO_nil ?_
  refine wpL_seq ?_
  refine wpL_region ?_
  refine sY hf hs rfl rfl rfl (Y_move rfl rfl) ?_; clear hf; intro a hf
  obtain ⟨r1, hc2, hm⟩ := bind_some hm
  refine sCall hf rfl rfl rfl rfl (cap := []) rfl rfl en65 (spec_l01From_ok F p0_code A_p0_code_1 p0_code.length c_p0_code_1 rfl _ _ hc2 (h_p0_code_1.at hs)) ?_; clear hf
  rintro _ w ⟨b3, rfl, hs1⟩ a hf
  have hs : St [] W w [.blk b3 149 [.slice A_p0_code_1 p0_code.length c_p0_code_1, .int .i64 r1.1, .int .i64 r1.2]] := hs.join hs1
  clear hs1
  refine sY hf hs rfl rfl rfl (Y_assign rfl rfl) ?_; clear hf; intro a hf
  refine wpO_nil ?_
  refine wpL_seq ?_
  refine wpL_region ?_
  refine sY hf hs rfl rfl rfl (Y_move rfl rfl) ?_; clear hf; intro a hf
  obtain ⟨r4, hc5, hm⟩ := bind_some hm
  refine sCall hf rfl rfl rfl rfl (cap := []) rfl rfl en78 (spec_l03Draw_ok F b3 p0_code A_p0_code_1 p0_code.length c_p0_code_1 rfl r1.1 r1.2 _ _ hc5 (h_p0_code_1.pass hs [0]) (hs.sel [0] (by decide)).rebase) ?_; clear hf
  rintro _ w ⟨A6, n7, c8, vs10, rfl, hn9, hs1⟩ a hf
  have hs : St [] W w [.mat A6 n7 c8 28 2 vs10 r4.1, .blk b3 149 [.slice A_p0_code_1 p0_code.length c_p0_code_1, .int .i64 r4.2.1, .int .i64 r4.2.2]] := St.mutTail (La := []) (Lb := [.blk b3 149 [.slice A_p0_code_1 p0_code.length c_p0_code_1, .int .i64 r1.1, .int .i64 r1.2]]) (hs.sel [0] (by decide)) hs1
  clear hs1
  refine sY hf hs rfl rfl rfl (Y_assign rfl rfl) ?_; clear hf; intro a hf
  refine wpO_nil ?_
  refine wpL_seq ?_
  refine wpL_region ?_
  refine sY hf hs rfl rfl rfl (Y_move rfl rfl) ?_; clear hf; intro a hf
  refine sY hf hs rfl rfl rfl (Y_move rfl rfl) ?_; clear hf; intro a hf
  refine sY hf hs rfl rfl rfl (Y_move rfl rfl) ?_; clear hf; intro a hf
  obtain ⟨r11, hc12, hm⟩ := bind_some hm
  refine sCall hf rfl rfl rfl rfl (cap := []) rfl rfl en99 (spec_l03DrawCycle_ok F b3 p0_code A_p0_code_1 p0_code.length c_p0_code_1 rfl r4.2.1 r4.2.2 r4.1 A6 n7 c8 hn9 _ _ hc12 (h_p0_code_1.pass hs [1]) (hs.keepM (i := 0) rfl [1] (by decide)) (hs.sel [1] (by decide)).rebase) ?_; clear hf
  rintro _ w ⟨A13, n14, c15, rfl, hn16, hs1⟩ a hf
  have hs : St [] W w [.mat A6 n7 c8 28 2 vs10 r4.1, .row A13 n14 c15 2 1 (ints r11.1), .blk b3 149 [.slice A_p0_code_1 p0_code.length c_p0_code_1, .int .i64 r11.2.1, .int .i64 r11.2.2]] := St.mutTail (La := [.mat A6 n7 c8 28 2 vs10 r4.1]) (Lb := [.blk b3 149 [.slice A_p0_code_1 p0_code.length c_p0_code_1, .int .i64 r4.2.1, .int .i64 r4.2.2]]) (hs.sel [0, 1] (by decide)) hs1
  clear hs1
  refine sY hf hs rfl rfl rfl (Y_assign rfl rfl) ?_; clear hf; intro a hf
  refine sY hf hs rfl rfl rfl (Y_assign rfl rfl) ?_; clear hf; intro a hf
  refine wpO_nil ?_
  obtain rfl := Option.some.inj hm
  refine wpL_ret (ret_tmp2 rfl hf rfl rfl ?_)
  exact ⟨_, rfl, A6, n7, c8, vs10, A13, n14, c15, rfl, hn9, hn16, hs.sel [0, 1] (by decide)⟩

set_option maxRecDepth 100000 in
theorem spec_DrawCycleWeight_ok (F : Nat) (p0_code : List Int) (A_p0_code_1 : Option Addr) (n_p0_code_1 c_p0_code_1 : Nat) (hn_p0_code_1 : n_p0_code_1 = p0_code.length) (r : List (List Int) × List Int) (W : World) (hm : spec_DrawCycleWeight F p0_code = some r) (h_p0_code_1 : Rd W A_p0_code_1 (bytes p0_code)) :
    Calls Try.prog 35 [.slice A_p0_code_1 n_p0_code_1 c_p0_code_1].toArray W fun e w' => ∃ v, e = .returned v ∧ ∃ A12, ∃ n13, ∃ c14, ∃ vs16, ∃ A17, ∃ n18, ∃ c19, v = .tuple #[.slice A12 n13 c14, .slice A17 n18 c19] ∧ n13 = r.1.length ∧ n18 = r.2.length ∧ St [] W w' [.mat A12 n13 c14 28 2 vs16 r.1, .row A17 n18 c19 2 1 (ints r.2)] := by
  subst hn_p0_code_1
  unfold spec_DrawCycleWeight at hm
  refine Calls.enter (N := 8) Try.func35 rfl rfl rfl (fun a hf => ?_)
  have hs := St.start W
  obtain ⟨w, hw_⟩ : ∃ w, w = W := ⟨W, rfl⟩
  clear hw_ w
  refine wpL_seq ?_
  refine wpL_region ?_
  refine sY hf hs rfl rfl rfl (Y_assign rfl rfl) ?_; clear hf; intro a hf
  refine sY hf hs rfl rfl rfl (Y_assign rfl rfl) ?_; clear hf; intro a hf
  refine wpO_nil ?_
  refine wpL_seq ?_
  refine wpL_region ?_
  refine sY hf hs rfl rfl rfl (Y_move rfl rfl) ?_; clear hf; intro a hf
  obtain ⟨r1, hc2, hm⟩ := bind_some hm
  refine sCall hf rfl rfl rfl rfl (cap := []) rfl rfl en38 (spec_DrawIsCycle_ok F p0_code A_p0_code_1 p0_code.length c_p0_code_1 rfl _ _ hc2 (h_p0_code_1.at hs)) ?_; clear hf
  rintro _ w ⟨A3, n4, c5, vs7, A8, n9, c10, rfl, hn6, hn11, hs1⟩ a hf
  have hs : St [] W w [.mat A3 n4 c5 28 2 vs7 r1.1, .row A8 n9 c10 2 1 (ints r1.2)] := hs.join hs1
  clear hs1
  refine sY hf hs rfl rfl rfl (Y_extract rfl rfl rfl) ?_; clear hf; intro a hf
  refine sY hf hs rfl rfl rfl (Y_extract rfl rfl rfl) ?_; clear hf; intro a hf
  refine sY hf hs rfl rfl rfl (Y_assign rfl rfl) ?_; clear hf; intro a hf
  refine sY hf hs rfl rfl rfl (Y_assign rfl rfl) ?_; clear hf; intro a hf
  refine wpO_nil ?_
  obtain rfl := Option.some.inj hm
  refine wpL_ret (ret_tmp2 rfl hf rfl rfl ?_)
  exact ⟨_, rfl, A3, n4, c5, vs7, A8, n9, c10, rfl, hn6, hn11, hs⟩

set_option maxRecDepth 100000 in
theorem impl_isNode_ok (F : Nat) (p0_a : List (List Int)) (A_p0_a_1 : Option Addr) (n_p0_a_1 c_p0_a_1 : Nat) (hn_p0_a_1 : n_p0_a_1 = p0_a.length) (p1_node : Int) (r : Bool) (W : World) (hm : impl_isNode F p0_a p1_node = some r) (_h_p0_a_1 : RdM W A_p0_a_1 p0_a) :
    Calls Try.prog 162 [.slice A_p0_a_1 n_p0_a_1 c_p0_a_1, .int .i64 p1_node].toArray W fun e w' => ∃ v, e = .returned v ∧ v = .bool r ∧ St [] W w' [] := by
  subst hn_p0_a_1
  unfold impl_isNode at hm
  refine Calls.enter (N := 10) Try.func162 rfl rfl rfl (fun a hf => ?_)
  have hs := St.start W
  obtain ⟨w, hw_⟩ : ∃ w, w = W := ⟨W, rfl⟩
  clear hw_ w
  refine wpL_seq ?_
  refine wpL_region ?_
  refine sY hf hs rfl rfl rfl (Y_assign rfl rfl) ?_; clear hf; intro a hf
  refine wpO_nil ?_
  refine wpL_seq ?_
  refine wpL_region ?_
  refine sY hf hs rfl rfl rfl (Y_move rfl rfl) ?_; clear hf; intro a hf
  refine sY hf hs rfl rfl rfl (Y_move rfl rfl) ?_; clear hf; intro a hf
  refine sY hf hs rfl rfl rfl (Y_lenH rfl rfl el40 rfl) ?_; clear hf; intro a hf
  refine sY hf hs rfl rfl rfl (Y_sub rfl rfl rfl) ?_; clear hf; intro a hf
  obtain ⟨r1, hc2, hm⟩ := bind_some hm
  refine sCall hf rfl rfl rfl rfl (cap := []) rfl rfl en71 (impl_within_ok F p1_node 0 (IntKind.i64.wrap ((p0_a.length : Int) - 1)) _ _ hc2) ?_; clear hf
  rintro _ w ⟨rfl, hs1⟩ a hf
  have hs : St [] W w [] := hs.ext hs1.below
  clear hs1
  refine sY hf hs rfl rfl rfl (Y_assign rfl rfl) ?_; clear hf; intro a hf
  refine wpO_nil ?_
  obtain rfl := Option.some.inj hm
  refine wpL_ret (ret_tmp rfl hf rfl ?_)
  exact ⟨_, rfl, rfl, hs⟩

set_option maxRecDepth 100000 in
theorem slices_Index_int64_ok (F : Nat) (p0_s : List Int) (A_p0_s_1 : Option Addr) (n_p0_s_1 c_p0_s_1 : Nat) (hn_p0_s_1 : n_p0_s_1 = p0_s.length) (p1_v : Int) (r : Int) (W : World) (hm : slices_Index_int64 F p0_s p1_v = some r) (h_p0_s_1 : Rd W A_p0_s_1 (ints p0_s)) :
    Calls Try.prog 207 [.slice A_p0_s_1 n_p0_s_1 c_p0_s_1, .int .i64 p1_v].toArray W fun e w' => ∃ v, e = .returned v ∧ v = .int .i64 r ∧ St [] W w' [] := by
  subst hn_p0_s_1
  unfold slices_Index_int64 at hm
  refine Calls.enter (N := 19) Try.func207 rfl rfl rfl (fun a hf => ?_)
  have hs := St.start W
  obtain ⟨w, hw_⟩ : ∃ w, w = W := ⟨W, rfl⟩
  clear hw_ w
  refine wpL_seq ?_
  refine wpL_region ?_
  refine sY hf hs rfl rfl rfl (Y_assign rfl rfl) ?_; clear hf; intro a hf
  refine wpO_nil ?_
  refine wpL_seq ?_
  refine wpL_seq ?_
  refine wpL_region ?_
  refine sY hf hs rfl rfl rfl (Y_move rfl rfl) ?_; clear hf; intro a hf
  refine sY hf hs rfl rfl rfl (Y_lenH rfl rfl el28 rfl) ?_; clear hf; intro a hf
  refine sY hf hs rfl rfl rfl (Y_move rfl rfl) ?_; clear hf; intro a hf
  refine wpO_nil ?_
  obtain ⟨r15, hl16, hm⟩ := bind_some hm
  refine wpL_block (fun a w => Sum.inr () = r15 ∧ Fr a 19 [] ∧ St [] W w []) ?_ ?_
  · refine wpL_loop (fun n a w => ∃ x10 : Int, slices_Index_int64_L1 F p0_s p1_v n x10 = some r15 ∧ Fr a 19 [(0, .slice A_p0_s_1 p0_s.length c_p0_s_1), (1, .int .i64 p1_v), (7, .int .i64 (p0_s.length : Int)), (8, .int .i64 x10)] ∧ St [] W w []) F ?_ ?_ ?_
    · exact ⟨0, hl16, (FrD.pick (FrD.pick (FrD.pick (FrD.pick hf.none hf rfl) hf rfl) hf rfl) hf rfl), hs⟩
    · rintro a w ⟨x10, h0_, -, -⟩; simp [slices_Index_int64_L1] at h0_
    · rintro n18 a w ⟨x10, hm17, hf, hs⟩
      rw [slices_Index_int64_L1] at hm17
      refine wpL_seq ?_
      refine wpL_region ?_
      refine sY hf hs rfl rfl rfl (Y_lss rfl rfl rfl) ?_; clear hf; intro a hf
      refine wpO_nil ?_
      refine wpL_seq ?_
      refine wpL_cond hf rfl (fun hb19 => ?_) (fun hb19 => ?_)
      · have hm17 := bif_t hm17 hb19
        refine wpL_skip ?_
        refine wpL_seq ?_
        refine wpL_block0 ?_
        refine wpL_seq ?_
        refine wpL_region ?_
        refine sY hf hs rfl rfl rfl (Y_move rfl rfl) ?_; clear hf; intro a hf
        refine sY hf hs rfl rfl rfl (Y_assign rfl rfl) ?_; clear hf; intro a hf
        refine wpO_nil ?_
        refine wpL_seq ?_
        refine wpL_region ?_
        refine sY hf hs rfl rfl rfl (Y_move rfl rfl) ?_; clear hf; intro a hf
        refine sY hf hs rfl rfl rfl (Y_move rfl rfl) ?_; clear hf; intro a hf
        refine sY hf hs rfl rfl rfl (Y_move rfl rfl) ?_; clear hf; intro a hf
        obtain ⟨q20, hi21, hm17⟩ := bind_some hm17
        obtain ⟨hi21a, hi21b, hi21q⟩ := idx_some hi21
        refine sY hf hs rfl rfl rfl (Y_index rfl rfl rfl el28 ti2 (Rd.isAt (h_p0_s_1.at hs) (at1 (ints_at hi21q))) hi21a hi21b) ?_; clear hf; intro a hf
        refine sY hf hs rfl rfl rfl (Y_load_rd rfl rfl (fun w hs => h_p0_s_1.at hs) (at1 (ints_at hi21q)) ag2) ?_; clear hf; intro a hf
        refine sY hf hs rfl rfl rfl (Y_eql rfl rfl rfl) ?_; clear hf; intro a hf
        refine wpO_nil ?_
        refine wpL_cond hf rfl (fun hb22 => ?_) (fun hb22 => ?_)
        · have hm17 := bif_t hm17 hb22
          refine wpL_seq ?_
          refine wpL_region ?_
          refine sY hf hs rfl rfl rfl (Y_move rfl rfl) ?_; clear hf; intro a hf
          refine sY hf hs rfl rfl rfl (Y_assign rfl rfl) ?_; clear hf; intro a hf
          refine wpO_nil ?_
          obtain rfl := Option.some.inj hm17
          try dsimp only at hm
          obtain rfl := Option.some.inj hm
          refine wpL_ret (Qb_ret (Ql_ret (Qb_ret (ret_tmp rfl hf rfl ?_))))
          exact ⟨_, rfl, rfl, hs⟩
        · have hm17 := bif_f hm17 hb22
          refine wpL_skip ?_
          refine wpL_nil (Qb_normal ?_)
          refine wpL_region ?_
          refine sY hf hs rfl rfl rfl (Y_add rfl rfl rfl) ?_; clear hf; intro a hf
          refine sY hf hs rfl rfl rfl (Y_move rfl rfl) ?_; clear hf; intro a hf
          refine wpO_nil ?_
          refine wpL_nil (Ql_normal ?_)
          exact ⟨(IntKind.i64.wrap (x10 + 1)), hm17, (FrD.pick (FrD.pick (FrD.pick (FrD.pick hf.none hf rfl) hf rfl) hf rfl) hf rfl), hs⟩
      · have hm17 := bif_f hm17 hb19
        refine wpL_exit (Ql_exit (Qb_exit ?_))
        exact ⟨Option.some.inj hm17, hf.none, hs⟩
  · rintro a w ⟨hr_, hf, hs⟩
    subst hr_
    try dsimp only at hm
    refine wpL_seq ?_
    refine wpL_region ?_
    refine sY hf hs rfl rfl rfl (Y_assign rfl rfl) ?_; clear hf; intro a hf
    refine wpO_nil ?_
    obtain rfl := Option.some.inj hm
    refine wpL_ret (ret_tmp rfl hf rfl ?_)
    exact ⟨_, rfl, rfl, hs⟩

set_option maxRecDepth 100000 in
theorem slices_Contains_int64_ok (F : Nat) (p0_s : List Int) (A_p0_s_1 : Option Addr) (n_p0_s_1 c_p0_s_1 : Nat) (hn_p0_s_1 : n_p0_s_1 = p0_s.length) (p1_v : Int) (r : Bool) (W : World) (hm : slices_Contains_int64 F p0_s p1_v = some r) (h_p0_s_1 : Rd W A_p0_s_1 (ints p0_s)) :
    Calls Try.prog 163 [.slice A_p0_s_1 n_p0_s_1 c_p0_s_1, .int .i64 p1_v].toArray W fun e w' => ∃ v, e = .returned v ∧ v = .bool r ∧ St [] W w' [] := by
  subst hn_p0_s_1
  unfold slices_Contains_int64 at hm
  refine Calls.enter (N := 9) Try.func163 rfl rfl rfl (fun a hf => ?_)
  have hs := St.start W
  obtain ⟨w, hw_⟩ : ∃ w, w = W := ⟨W, rfl⟩
  clear hw_ w
  refine wpL_seq ?_
  refine wpL_region ?_
  refine sY hf hs rfl rfl rfl (Y_assign rfl rfl) ?_; clear hf; intro a hf
  refine wpO_nil ?_
  refine wpL_seq ?_
  refine wpL_region ?_
  refine sY hf hs rfl rfl rfl (Y_move rfl rfl) ?_; clear hf; intro a hf
  refine sY hf hs rfl rfl rfl (Y_move rfl rfl) ?_; clear hf; intro a hf
  obtain ⟨r1, hc2, hm⟩ := bind_some hm
  refine sCall hf rfl rfl rfl rfl (cap := []) rfl rfl en207 (slices_Index_int64_ok F p0_s A_p0_s_1 p0_s.length c_p0_s_1 rfl p1_v _ _ hc2 (h_p0_s_1.at hs)) ?_; clear hf
  rintro _ w ⟨rfl, hs1⟩ a hf
  have hs : St [] W w [] := hs.ext hs1.below
  clear hs1
  refine sY hf hs rfl rfl rfl (Y_geq rfl rfl rfl) ?_; clear hf; intro a hf
  refine sY hf hs rfl rfl rfl (Y_assign rfl rfl) ?_; clear hf; intro a hf
  refine wpO_nil ?_
  obtain rfl := Option.some.inj hm
  refine wpL_ret (ret_tmp rfl hf rfl ?_)
  exact ⟨_, rfl, rfl, hs⟩

set_option maxRecDepth 100000 in
theorem impl_cycleWeight_ok (F : Nat) (p0 : List (List Int)) (A_p0_1 : Option Addr) (n_p0_1 c_p0_1 : Nat) (hn_p0_1 : n_p0_1 = p0.length) (p1 : List Int) (A_p1_1 : Option Addr) (n_p1_1 c_p1_1 : Nat) (hn_p1_1 : n_p1_1 = p1.length) (r : Int × Bool) (W : World) (hm : impl_cycleWeight F p0 p1 = some r) (h_p0_1 : RdM W A_p0_1 p0) (h_p1_1 : Rd W A_p1_1 (ints p1)) (hcap_h_p1_1 : n_p1_1 ≤ c_p1_1) :
    Calls Try.prog 95 [.slice A_p0_1 n_p0_1 c_p0_1, .slice A_p1_1 n_p1_1 c_p1_1].toArray W fun e w' => ∃ v, e = .returned v ∧ v = .tuple #[.int .i64 r.1, .bool r.2] ∧ St [] W w' [] := by
  subst hn_p0_1
  subst hn_p1_1
  unfold impl_cycleWeight at hm
  refine Calls.enter (N := 65) Try.func95 rfl rfl rfl (fun a hf => ?_)
  have hs := St.start W
  obtain ⟨w, hw_⟩ : ∃ w, w = W := ⟨W, rfl⟩
  clear hw_ w
  refine wpL_seq ?_
  refine wpL_region ?_
  refine sY hf hs rfl rfl rfl (Y_assign rfl rfl) ?_; clear hf; intro a hf
  refine sY hf hs rfl rfl rfl (Y_assign rfl rfl) ?_; clear hf; intro a hf
  refine wpO_nil ?_
  refine wpL_seq ?_
  refine wpL_seq ?_
  refine wpL_region ?_
  refine sY hf hs rfl rfl rfl (Y_move rfl rfl) ?_; clear hf; intro a hf
  refine sY hf hs rfl rfl rfl (Y_lenH rfl rfl el28 rfl) ?_; clear hf; intro a hf
  refine sY hf hs rfl rfl rfl (Y_eql rfl rfl rfl) ?_; clear hf; intro a hf
  refine wpO_nil ?_
  refine wpL_cond hf rfl (fun hb1 => ?_) (fun hb1 => ?_)
  · have hm := bif_t hm hb1
    refine wpL_seq ?_
    refine wpL_region ?_
    refine sY hf hs rfl rfl rfl (Y_assign rfl rfl) ?_; clear hf; intro a hf
    refine sY hf hs rfl rfl rfl (Y_assign rfl rfl) ?_; clear hf; intro a hf
    refine wpO_nil ?_
    obtain rfl := Option.some.inj hm
    refine wpL_ret (ret_tmp2 rfl hf rfl rfl ?_)
    exact ⟨_, rfl, rfl, hs⟩
  · have hm := bif_f hm hb1
    refine wpL_skip ?_
    refine wpL_seq ?_
    refine wpL_region ?_
    refine sY hf hs rfl rfl rfl (Y_assign rfl rfl) ?_; clear hf; intro a hf
    refine wpO_nil ?_
    refine wpL_seq ?_
    refine wpL_region ?_
    refine sY hf hs rfl rfl rfl (Y_move rfl rfl) ?_; clear hf; intro a hf
    refine sY hf hs rfl rfl rfl (Y_move rfl rfl) ?_; clear hf; intro a hf
    refine sY hf hs rfl rfl rfl (Y_lenH rfl rfl el28 rfl) ?_; clear hf; intro a hf
    refine sY hf hs rfl rfl rfl (Y_sub rfl rfl rfl) ?_; clear hf; intro a hf
    obtain ⟨q2, hi3, hm⟩ := bind_some hm
    obtain ⟨hi3a, hi3b, hi3q⟩ := idx_some hi3
    refine sY hf hs rfl rfl rfl (Y_index rfl rfl rfl el28 ti2 (Rd.isAt (h_p1_1.at hs) (at1 (ints_at hi3q))) hi3a hi3b) ?_; clear hf; intro a hf
    refine sY hf hs rfl rfl rfl (Y_load_rd rfl rfl (fun w hs => h_p1_1.at hs) (at1 (ints_at hi3q)) ag2) ?_; clear hf; intro a hf
    refine sY hf hs rfl rfl rfl (Y_assign rfl rfl) ?_; clear hf; intro a hf
    refine wpO_nil ?_
    refine wpL_seq ?_
    refine wpL_seq ?_
    refine wpL_region ?_
    refine sY hf hs rfl rfl rfl (Y_move rfl rfl) ?_; clear hf; intro a hf
    refine sY hf hs rfl rfl rfl (Y_lenH rfl rfl el28 rfl) ?_; clear hf; intro a hf
    refine sY hf hs rfl rfl rfl (Y_move rfl rfl) ?_; clear hf; intro a hf
    refine wpO_nil ?_
    obtain ⟨r197, hl198, hm⟩ := bind_some hm
    refine wpL_block (fun a w => ∃ x196 : Int, Sum.inr x196 = r197 ∧ Fr a 65 [(6, .int .i64 x196)] ∧ St [] W w []) ?_ ?_
    · refine wpL_loop (fun n a w => ∃ x131 : Int, ∃ x132 : Int, ∃ x133 : Int, impl_cycleWeight_L1 F p0 p1 n x131 x132 x133 = some r197 ∧ Fr a 65 [(0, .slice A_p0_1 p0.length c_p0_1), (1, .slice A_p1_1 p1.length c_p1_1), (6, .int .i64 x131), (7, .int .i64 x132), (19, .slice A_p1_1 p1.length c_p1_1), (20, .int .i64 (p1.length : Int)), (21, .int .i64 x133)] ∧ St [] W w []) F ?_ ?_ ?_
      · exact ⟨0, q2, 0, hl198, (FrD.pick (FrD.pick (FrD.pick (FrD.pick (FrD.pick (FrD.pick (FrD.pick hf.none hf rfl) hf rfl) hf rfl) hf rfl) hf rfl) hf rfl) hf rfl), hs⟩
      · rintro a w ⟨x131, x132, x133, h0_, -, -⟩; simp [impl_cycleWeight_L1] at h0_
      · rintro n200 a w ⟨x131, x132, x133, hm199, hf, hs⟩
        rw [impl_cycleWeight_L1] at hm199
        refine wpL_seq ?_
        refine wpL_region ?_
        refine sY hf hs rfl rfl rfl (Y_lss rfl rfl rfl) ?_; clear hf; intro a hf
        refine wpO_nil ?_
        refine wpL_seq ?_
        refine wpL_cond hf rfl (fun hb201 => ?_) (fun hb201 => ?_)
        · have hm199 := bif_t hm199 hb201
          refine wpL_skip ?_
          refine wpL_seq ?_
          refine wpL_block0 ?_
          refine wpL_seq ?_
          refine wpL_region ?_
          refine sY hf hs rfl rfl rfl (Y_move rfl rfl) ?_; clear hf; intro a hf
          obtain ⟨q202, hi203, hm199⟩ := bind_some hm199
          obtain ⟨hi203a, hi203b, hi203q⟩ := idx_some hi203
          refine sY hf hs rfl rfl rfl (Y_index rfl rfl rfl el28 ti2 (Rd.isAt (h_p1_1.at hs) (at1 (ints_at hi203q))) hi203a hi203b) ?_; clear hf; intro a hf
          refine sY hf hs rfl rfl rfl (Y_load_rd rfl rfl (fun w hs => h_p1_1.at hs) (at1 (ints_at hi203q)) ag2) ?_; clear hf; intro a hf
          refine sY hf hs rfl rfl rfl (Y_assign rfl rfl) ?_; clear hf; intro a hf
          refine sY hf hs rfl rfl rfl (Y_assign rfl rfl) ?_; clear hf; intro a hf
          refine wpO_nil ?_
          refine wpL_seq ?_
          refine wpL_seq ?_
          obtain ⟨r227, hj228, hm199⟩ := bind_some hm199
          refine wpL_cut (fun a w => ∃ b226 : Bool, b226 = r227 ∧ Fr a 65 [(0, .slice A_p0_1 p0.length c_p0_1), (1, .slice A_p1_1 p1.length c_p1_1), (6, .int .i64 x131), (7, .int .i64 x132), (9, .int .i64 q202), (19, .slice A_p1_1 p1.length c_p1_1), (20, .int .i64 (p1.length : Int)), (21, .int .i64 x133), (52, .bool b226)] ∧ St [] W w []) ?_ ?_
          · refine wpL_region ?_
            refine sY hf hs rfl rfl rfl (Y_move rfl rfl) ?_; clear hf; intro a hf
            refine sY hf hs rfl rfl rfl (Y_move rfl rfl) ?_; clear hf; intro a hf
            obtain ⟨r229, hc230, hj228⟩ := bind_some hj228
            refine sCall hf rfl rfl rfl rfl (cap := []) rfl rfl en162 (impl_isNode_ok F p0 A_p0_1 p0.length c_p0_1 rfl q202 _ _ hc230 (h_p0_1.at hs)) ?_; clear hf
            rintro _ w ⟨rfl, hs1⟩ a hf
            have hs : St [] W w [] := hs.ext hs1.below
            clear hs1
            refine sY hf hs rfl rfl rfl (Y_not rfl rfl) ?_; clear hf; intro a hf
            refine sY hf hs rfl rfl rfl (Y_move rfl rfl) ?_; clear hf; intro a hf
            refine bsplit (!r229) (fun hb231 => ?_) (fun hb231 => ?_)
            · have hj228 := bif_t hj228 hb231
              refine sNo hf rfl rfl rfl (congrArg (fun b => some (Value.bool b)) hb231) rfl rfl rfl ?_; clear hf; intro a hf
              refine sNo hf rfl rfl rfl (congrArg (fun b => some (Value.bool b)) hb231) rfl rfl rfl ?_; clear hf; intro a hf
              refine sNo hf rfl rfl rfl (congrArg (fun b => some (Value.bool b)) hb231) rfl rfl rfl ?_; clear hf; intro a hf
              refine sNo hf rfl rfl rfl (congrArg (fun b => some (Value.bool b)) hb231) rfl rfl rfl ?_; clear hf; intro a hf
              refine sY hf hs rfl rfl rfl (Y_pickT rfl (congrArg (fun b => some (Value.bool b)) hb231) rfl) ?_; clear hf; intro a hf
              refine sY hf hs rfl rfl rfl (Y_move rfl rfl) ?_; clear hf; intro a hf
              refine sNo hf rfl rfl rfl rfl rfl rfl rfl ?_; clear hf; intro a hf
              refine sNo hf rfl rfl rfl rfl rfl rfl rfl ?_; clear hf; intro a hf
              refine sNo hf rfl rfl rfl rfl rfl rfl rfl ?_; clear hf; intro a hf
              refine sNo hf rfl rfl rfl rfl rfl rfl rfl ?_; clear hf; intro a hf
              refine sNo hf rfl rfl rfl rfl rfl rfl rfl ?_; clear hf; intro a hf
              refine sY hf hs rfl rfl rfl (Y_pickT rfl rfl rfl) ?_; clear hf; intro a hf
              refine sY hf hs rfl rfl rfl (Y_move rfl rfl) ?_; clear hf; intro a hf
              refine sNo hf rfl rfl rfl rfl rfl rfl rfl ?_; clear hf; intro a hf
              refine sNo hf rfl rfl rfl rfl rfl rfl rfl ?_; clear hf; intro a hf
              refine sNo hf rfl rfl rfl rfl rfl rfl rfl ?_; clear hf; intro a hf
              refine sNo hf rfl rfl rfl rfl rfl rfl rfl ?_; clear hf; intro a hf
              refine sNo hf rfl rfl rfl rfl rfl rfl rfl ?_; clear hf; intro a hf
              refine sNo hf rfl rfl rfl rfl rfl rfl rfl ?_; clear hf; intro a hf
              refine sNo hf rfl rfl rfl rfl rfl rfl rfl ?_; clear hf; intro a hf
              refine sNo hf rfl rfl rfl rfl rfl rfl rfl ?_; clear hf; intro a hf
              refine sY hf hs rfl rfl rfl (Y_pickT rfl rfl rfl) ?_; clear hf; intro a hf
              refine wpO_nil ?_
              refine wpL_nil (then_normal ?_)
              exact ⟨true, Option.some.inj hj228, (FrD.pick (FrD.pick (FrD.pick (FrD.pick (FrD.pick (FrD.pick (FrD.pick (FrD.pick (FrD.pick hf.none hf rfl) hf rfl) hf rfl) hf rfl) hf rfl) hf rfl) hf rfl) hf rfl) hf rfl), hs⟩
            · have hj228 := bif_f hj228 hb231
              refine sYg hf hs rfl rfl rfl (congrArg (fun b => some (Value.bool b)) hb231) rfl rfl rfl (Y_move rfl rfl) ?_; clear hf; intro a hf
              refine sYg hf hs rfl rfl rfl (congrArg (fun b => some (Value.bool b)) hb231) rfl rfl rfl (Y_move rfl rfl) ?_; clear hf; intro a hf
              obtain ⟨r232, hc233, hj228⟩ := bind_some hj228
              refine sCallg hf rfl rfl rfl (congrArg (fun b => some (Value.bool b)) hb231) rfl rfl rfl rfl (cap := []) rfl rfl en162 (impl_isNode_ok F p0 A_p0_1 p0.length c_p0_1 rfl x132 _ _ hc233 (h_p0_1.at hs)) ?_; clear hf
              rintro _ w ⟨rfl, hs1⟩ a hf
              have hs : St [] W w [] := hs.ext hs1.below
              clear hs1
              refine sYg hf hs rfl rfl rfl (congrArg (fun b => some (Value.bool b)) hb231) rfl rfl rfl (Y_not rfl rfl) ?_; clear hf; intro a hf
              refine sY hf hs rfl rfl rfl (Y_pickF rfl (congrArg (fun b => some (Value.bool b)) hb231) rfl) ?_; clear hf; intro a hf
              refine sY hf hs rfl rfl rfl (Y_move rfl rfl) ?_; clear hf; intro a hf
              refine bsplit (!r232) (fun hb234 => ?_) (fun hb234 => ?_)
              · have hj228 := bif_t hj228 hb234
                refine sNo hf rfl rfl rfl (congrArg (fun b => some (Value.bool b)) hb234) rfl rfl rfl ?_; clear hf; intro a hf
                refine sNo hf rfl rfl rfl (congrArg (fun b => some (Value.bool b)) hb234) rfl rfl rfl ?_; clear hf; intro a hf
                refine sNo hf rfl rfl rfl (congrArg (fun b => some (Value.bool b)) hb234) rfl rfl rfl ?_; clear hf; intro a hf
                refine sNo hf rfl rfl rfl (congrArg (fun b => some (Value.bool b)) hb234) rfl rfl rfl ?_; clear hf; intro a hf
                refine sNo hf rfl rfl rfl (congrArg (fun b => some (Value.bool b)) hb234) rfl rfl rfl ?_; clear hf; intro a hf
                refine sY hf hs rfl rfl rfl (Y_pickT rfl (congrArg (fun b => some (Value.bool b)) hb234) rfl) ?_; clear hf; intro a hf
                refine sY hf hs rfl rfl rfl (Y_move rfl rfl) ?_; clear hf; intro a hf
                refine sNo hf rfl rfl rfl rfl rfl rfl rfl ?_; clear hf; intro a hf
                refine sNo hf rfl rfl rfl rfl rfl rfl rfl ?_; clear hf; intro a hf
                refine sNo hf rfl rfl rfl rfl rfl rfl rfl ?_; clear hf; intro a hf
                refine sNo hf rfl rfl rfl rfl rfl rfl rfl ?_; clear hf; intro a hf
                refine sNo hf rfl rfl rfl rfl rfl rfl rfl ?_; clear hf; intro a hf
                refine sNo hf rfl rfl rfl rfl rfl rfl rfl ?_; clear hf; intro a hf
                refine sNo hf rfl rfl rfl rfl rfl rfl rfl ?_; clear hf; intro a hf
                refine sNo hf rfl rfl rfl rfl rfl rfl rfl ?_; clear hf; intro a hf
                refine sY hf hs rfl rfl rfl (Y_pickT rfl rfl rfl) ?_; clear hf; intro a hf
                refine wpO_nil ?_
                refine wpL_nil (then_normal ?_)
                exact ⟨true, Option.some.inj hj228, (FrD.pick (FrD.pick (FrD.pick (FrD.pick (FrD.pick (FrD.pick (FrD.pick (FrD.pick (FrD.pick hf.none hf rfl) hf rfl) hf rfl) hf rfl) hf rfl) hf rfl) hf rfl) hf rfl) hf rfl), hs⟩
              · have hj228 := bif_f hj228 hb234
                refine sYg hf hs rfl rfl rfl (congrArg (fun b => some (Value.bool b)) hb234) rfl rfl rfl (Y_move rfl rfl) ?_; clear hf; intro a hf
                refine sYg hf hs rfl rfl rfl (congrArg (fun b => some (Value.bool b)) hb234) rfl rfl rfl (Y_move rfl rfl) ?_; clear hf; intro a hf
                obtain ⟨xs236, hk235, hj228⟩ := bind_some hj228
                refine sYg hf hs rfl rfl rfl (congrArg (fun b => some (Value.bool b)) hb234) rfl rfl rfl (Y_sliceH rfl rfl rfl (cutTo_some hk235).1 (leC rfl hcap_h_p1_1 hk235) el28 ti2) ?_; clear hf; intro a hf
                refine sYg hf hs rfl rfl rfl (congrArg (fun b => some (Value.bool b)) hb234) rfl rfl rfl (Y_move rfl rfl) ?_; clear hf; intro a hf
                obtain ⟨r237, hc238, hj228⟩ := bind_some hj228
                refine sCallg hf rfl rfl rfl (congrArg (fun b => some (Value.bool b)) hb234) rfl rfl rfl rfl (cap := []) rfl rfl en163 (slices_Contains_int64_ok F xs236 A_p1_1 ((x133 : Int).toNat) c_p1_1 (pre_len hk235) q202 _ _ hc238 ((Rd.preInts h_p1_1 hk235).at hs)) ?_; clear hf
                rintro _ w ⟨rfl, hs1⟩ a hf
                have hs : St [] W w [] := hs.ext hs1.below
                clear hs1
                refine sY hf hs rfl rfl rfl (Y_pickF rfl (congrArg (fun b => some (Value.bool b)) hb234) rfl) ?_; clear hf; intro a hf
                refine sY hf hs rfl rfl rfl (Y_move rfl rfl) ?_; clear hf; intro a hf
                refine bsplit r237 (fun hb239 => ?_) (fun hb239 => ?_)
                · have hj228 := bif_t hj228 hb239
                  refine sNo hf rfl rfl rfl (congrArg (fun b => some (Value.bool b)) hb239) rfl rfl rfl ?_; clear hf; intro a hf
                  refine sNo hf rfl rfl rfl (congrArg (fun b => some (Value.bool b)) hb239) rfl rfl rfl ?_; clear hf; intro a hf
                  refine sNo hf rfl rfl rfl (congrArg (fun b => some (Value.bool b)) hb239) rfl rfl rfl ?_; clear hf; intro a hf
                  refine sNo hf rfl rfl rfl (congrArg (fun b => some (Value.bool b)) hb239) rfl rfl rfl ?_; clear hf; intro a hf
                  refine sNo hf rfl rfl rfl (congrArg (fun b => some (Value.bool b)) hb239) rfl rfl rfl ?_; clear hf; intro a hf
                  refine sNo hf rfl rfl rfl (congrArg (fun b => some (Value.bool b)) hb239) rfl rfl rfl ?_; clear hf; intro a hf
                  refine sNo hf rfl rfl rfl (congrArg (fun b => some (Value.bool b)) hb239) rfl rfl rfl ?_; clear hf; intro a hf
                  refine sNo hf rfl rfl rfl (congrArg (fun b => some (Value.bool b)) hb239) rfl rfl rfl ?_; clear hf; intro a hf
                  refine sY hf hs rfl rfl rfl (Y_pickT rfl (congrArg (fun b => some (Value.bool b)) hb239) rfl) ?_; clear hf; intro a hf
                  refine wpO_nil ?_
                  refine wpL_nil (then_normal ?_)
                  exact ⟨true, Option.some.inj hj228, (FrD.pick (FrD.pick (FrD.pick (FrD.pick (FrD.pick (FrD.pick (FrD.pick (FrD.pick (FrD.pick hf.none hf rfl) hf rfl) hf rfl) hf rfl) hf rfl) hf rfl) hf rfl) hf rfl) hf rfl), hs⟩
                · have hj228 := bif_f hj228 hb239
                  refine sYg hf hs rfl rfl rfl (congrArg (fun b => some (Value.bool b)) hb239) rfl rfl rfl (Y_move rfl rfl) ?_; clear hf; intro a hf
                  refine sYg hf hs rfl rfl rfl (congrArg (fun b => some (Value.bool b)) hb239) rfl rfl rfl (Y_move rfl rfl) ?_; clear hf; intro a hf
                  obtain ⟨q240, hi241, hj228⟩ := bind_some hj228
                  obtain ⟨hi241a, hi241b, hi241q⟩ := idx_some hi241
                  obtain ⟨vs242, hv243, hr244⟩ := id h_p0_1
                  obtain ⟨A245, c246, hv247, hR248⟩ := hr244 _ _ hi241q
                  refine sYg hf hs rfl rfl rfl (congrArg (fun b => some (Value.bool b)) hb239) rfl rfl rfl (Y_index rfl rfl rfl el40 ti28 (Rd.isAt hv243 hv247) hi241a hi241b) ?_; clear hf; intro a hf
                  refine sYg hf hs rfl rfl rfl (congrArg (fun b => some (Value.bool b)) hb239) rfl rfl rfl (Y_load_rd rfl rfl (fun w hs => hv243.at hs) (at1 hv247) ag28) ?_; clear hf; intro a hf
                  refine sYg hf hs rfl rfl rfl (congrArg (fun b => some (Value.bool b)) hb239) rfl rfl rfl (Y_move rfl rfl) ?_; clear hf; intro a hf
                  obtain ⟨q249, hi250, hj228⟩ := bind_some hj228
                  obtain ⟨hi250a, hi250b, hi250q⟩ := idx_some hi250
                  refine sYg hf hs rfl rfl rfl (congrArg (fun b => some (Value.bool b)) hb239) rfl rfl rfl (Y_index rfl rfl rfl el28 ti2 (Rd.isAt (hR248.at hs) (at1 (ints_at hi250q))) hi250a hi250b) ?_; clear hf; intro a hf
                  refine sYg hf hs rfl rfl rfl (congrArg (fun b => some (Value.bool b)) hb239) rfl rfl rfl (Y_load_rd rfl rfl (fun w hs => hR248.at hs) (at1 (ints_at hi250q)) ag2) ?_; clear hf; intro a hf
                  refine sYg hf hs rfl rfl rfl (congrArg (fun b => some (Value.bool b)) hb239) rfl rfl rfl (Y_eql rfl rfl rfl) ?_; clear hf; intro a hf
                  refine sY hf hs rfl rfl rfl (Y_pickF rfl (congrArg (fun b => some (Value.bool b)) hb239) rfl) ?_; clear hf; intro a hf
                  refine wpO_nil ?_
                  refine wpL_nil (then_normal ?_)
                  exact ⟨(q249 == (-1000000000000000)), Option.some.inj hj228, (FrD.pick (FrD.pick (FrD.pick (FrD.pick (FrD.pick (FrD.pick (FrD.pick (FrD.pick (FrD.pick hf.none hf rfl) hf rfl) hf rfl) hf rfl) hf rfl) hf rfl) hf rfl) hf rfl) hf rfl), hs⟩
          · rintro a w ⟨b226, hr_, hf, hs⟩
            subst hr_
            try dsimp only at hm199
            refine wpL_cond hf rfl (fun hb251 => ?_) (fun hb251 => ?_)
            · have hm199 := bif_t hm199 hb251
              refine wpL_seq ?_
              refine wpL_region ?_
              refine sY hf hs rfl rfl rfl (Y_assign rfl rfl) ?_; clear hf; intro a hf
              refine sY hf hs rfl rfl rfl (Y_assign rfl rfl) ?_; clear hf; intro a hf
              refine wpO_nil ?_
              obtain rfl := Option.some.inj hm199
              try dsimp only at hm
              obtain rfl := Option.some.inj hm
              refine wpL_ret (Qb_ret (Ql_ret (Qb_ret (ret_tmp2 rfl hf rfl rfl ?_))))
              exact ⟨_, rfl, rfl, hs⟩
            · have hm199 := bif_f hm199 hb251
              refine wpL_skip ?_
              refine wpL_seq ?_
              refine wpL_region ?_
              refine sY hf hs rfl rfl rfl (Y_move rfl rfl) ?_; clear hf; intro a hf
              refine sY hf hs rfl rfl rfl (Y_move rfl rfl) ?_; clear hf; intro a hf
              refine sY hf hs rfl rfl rfl (Y_move rfl rfl) ?_; clear hf; intro a hf
              obtain ⟨q252, hi253, hm199⟩ := bind_some hm199
              obtain ⟨hi253a, hi253b, hi253q⟩ := idx_some hi253
              obtain ⟨vs254, hv255, hr256⟩ := id h_p0_1
              obtain ⟨A257, c258, hv259, hR260⟩ := hr256 _ _ hi253q
              refine sY hf hs rfl rfl rfl (Y_index rfl rfl rfl el40 ti28 (Rd.isAt hv255 hv259) hi253a hi253b) ?_; clear hf; intro a hf
              refine sY hf hs rfl rfl rfl (Y_load_rd rfl rfl (fun w hs => hv255.at hs) (at1 hv259) ag28) ?_; clear hf; intro a hf
              refine sY hf hs rfl rfl rfl (Y_move rfl rfl) ?_; clear hf; intro a hf
              obtain ⟨q261, hi262, hm199⟩ := bind_some hm199
              obtain ⟨hi262a, hi262b, hi262q⟩ := idx_some hi262
              refine sY hf hs rfl rfl rfl (Y_index rfl rfl rfl el28 ti2 (Rd.isAt (hR260.at hs) (at1 (ints_at hi262q))) hi262a hi262b) ?_; clear hf; intro a hf
              refine sY hf hs rfl rfl rfl (Y_load_rd rfl rfl (fun w hs => hR260.at hs) (at1 (ints_at hi262q)) ag2) ?_; clear hf; intro a hf
              refine sY hf hs rfl rfl rfl (Y_add rfl rfl rfl) ?_; clear hf; intro a hf
              refine sY hf hs rfl rfl rfl (Y_assign rfl rfl) ?_; clear hf; intro a hf
              refine wpO_nil ?_
              refine wpL_region ?_
              refine sY hf hs rfl rfl rfl (Y_move rfl rfl) ?_; clear hf; intro a hf
              refine sY hf hs rfl rfl rfl (Y_assign rfl rfl) ?_; clear hf; intro a hf
              refine wpO_nil ?_
              refine wpL_nil (Qb_normal ?_)
              refine wpL_region ?_
              refine sY hf hs rfl rfl rfl (Y_add rfl rfl rfl) ?_; clear hf; intro a hf
              refine sY hf hs rfl rfl rfl (Y_move rfl rfl) ?_; clear hf; intro a hf
              refine wpO_nil ?_
              refine wpL_nil (Ql_normal ?_)
              exact ⟨(IntKind.i64.wrap (x131 + q261)), q202, (IntKind.i64.wrap (x133 + 1)), hm199, (FrD.pick (FrD.pick (FrD.pick (FrD.pick (FrD.pick (FrD.pick (FrD.pick hf.none hf rfl) hf rfl) hf rfl) hf rfl) hf rfl) hf rfl) hf rfl), hs⟩
        · have hm199 := bif_f hm199 hb201
          refine wpL_exit (Ql_exit (Qb_exit ?_))
          exact ⟨x131, Option.some.inj hm199, (FrD.pick hf.none hf rfl), hs⟩
    · rintro a w ⟨x196, hr_, hf, hs⟩
      subst hr_
      try dsimp only at hm
      refine wpL_seq ?_
      refine wpL_region ?_
      refine sY hf hs rfl rfl rfl (Y_move rfl rfl) ?_; clear hf; intro a hf
      refine sY hf hs rfl rfl rfl (Y_assign rfl rfl) ?_; clear hf; intro a hf
      refine sY hf hs rfl rfl rfl (Y_assign rfl rfl) ?_; clear hf; intro a hf
      refine wpO_nil ?_
      obtain rfl := Option.some.inj hm
      refine wpL_ret (ret_tmp2 rfl hf rfl rfl ?_)
      exact ⟨_, rfl, rfl, hs⟩

set_option maxRecDepth 100000 in
theorem impl_checkedValue_ok (F : Nat) (p0_n : Int) (r : Int × Int) (W : World) (hm : impl_checkedValue F p0_n = some r) :
    Calls Try.prog 96 [.int .i64 p0_n].toArray W fun e w' => ∃ v, e = .returned v ∧ v = .tuple #[.int .i64 r.1, .int .i64 r.2] ∧ St [] W w' [] := by
  unfold impl_checkedValue at hm
  refine Calls.enter (N := 8) Try.func96 rfl rfl rfl (fun a hf => ?_)
  have hs := St.start W
  obtain ⟨w, hw_⟩ : ∃ w, w = W := ⟨W, rfl⟩
  clear hw_ w
  refine wpL_seq ?_
  refine wpL_region ?_
  refine sY hf hs rfl rfl rfl (Y_assign rfl rfl) ?_; clear hf; intro a hf
  refine sY hf hs rfl rfl rfl (Y_assign rfl rfl) ?_; clear hf; intro a hf
  refine wpO_nil ?_
  refine wpL_seq ?_
  refine wpL_seq ?_
  refine wpL_region ?_
  refine sY hf hs rfl rfl rfl (Y_move rfl rfl) ?_; clear hf; intro a hf
  obtain ⟨r1, hc2, hm⟩ := bind_some hm
  refine sCall hf rfl rfl rfl rfl (cap := []) rfl rfl en164 (impl_IsValue_ok F p0_n _ _ hc2) ?_; clear hf
  rintro _ w ⟨rfl, hs1⟩ a hf
  have hs : St [] W w [] := hs.ext hs1.below
  clear hs1
  refine sY hf hs rfl rfl rfl (Y_not rfl rfl) ?_; clear hf; intro a hf
  refine wpO_nil ?_
  refine wpL_cond hf rfl (fun hb3 => ?_) (fun hb3 => ?_)
  · have hm := bif_t hm hb3
    refine wpL_seq ?_
    refine wpL_region ?_
    refine sY hf hs rfl rfl rfl (Y_assign rfl rfl) ?_; clear hf; intro a hf
    refine sY hf hs rfl rfl rfl (Y_assign rfl rfl) ?_; clear hf; intro a hf
    refine wpO_nil ?_
    obtain rfl := Option.some.inj hm
    refine wpL_ret (ret_tmp2 rfl hf rfl rfl ?_)
    exact ⟨_, rfl, rfl, hs⟩
  · have hm := bif_f hm hb3
    refine wpL_skip ?_
    refine wpL_seq ?_
    refine wpL_region ?_
    refine sY hf hs rfl rfl rfl (Y_move rfl rfl) ?_; clear hf; intro a hf
    refine sY hf hs rfl rfl rfl (Y_assign rfl rfl) ?_; clear hf; intro a hf
    refine sY hf hs rfl rfl rfl (Y_assign rfl rfl) ?_; clear hf; intro a hf
    refine wpO_nil ?_
    obtain rfl := Option.some.inj hm
    refine wpL_ret (ret_tmp2 rfl hf rfl rfl ?_)
    exact ⟨_, rfl, rfl, hs⟩

set_option maxRecDepth 100000 in
theorem impl_CycleWeight_ok (F : Nat) (p0_a : List (List Int)) (A_p0_a_1 : Option Addr) (n_p0_a_1 c_p0_a_1 : Nat) (hn_p0_a_1 : n_p0_a_1 = p0_a.length) (p1_cycle : List Int) (A_p1_cycle_1 : Option Addr) (n_p1_cycle_1 c_p1_cycle_1 : Nat) (hn_p1_cycle_1 : n_p1_cycle_1 = p1_cycle.length) (r : Int × Int) (W : World) (hm : impl_CycleWeight F p0_a p1_cycle = some r) (h_p0_a_1 : RdM W A_p0_a_1 p0_a) (h_p1_cycle_1 : Rd W A_p1_cycle_1 (ints p1_cycle)) (hcap_h_p1_cycle_1 : n_p1_cycle_1 ≤ c_p1_cycle_1) :
    Calls Try.prog 36 [.slice A_p0_a_1 n_p0_a_1 c_p0_a_1, .slice A_p1_cycle_1 n_p1_cycle_1 c_p1_cycle_1].toArray W fun e w' => ∃ v, e = .returned v ∧ v = .tuple #[.int .i64 r.1, .int .i64 r.2] ∧ St [] W w' [] := by
  subst hn_p0_a_1
  subst hn_p1_cycle_1
  unfold impl_CycleWeight at hm
  refine Calls.enter (N := 23) Try.func36 rfl rfl rfl (fun a hf => ?_)
  have hs := St.start W
  obtain ⟨w, hw_⟩ : ∃ w, w = W := ⟨W, rfl⟩
  clear hw_ w
  refine wpL_seq ?_
  refine wpL_region ?_
  refine sY hf hs rfl rfl rfl (Y_assign rfl rfl) ?_; clear hf; intro a hf
  refine sY hf hs rfl rfl rfl (Y_assign rfl rfl) ?_; clear hf; intro a hf
  refine wpO_nil ?_
  refine wpL_seq ?_
  refine wpL_seq ?_
  refine wpL_region ?_
  refine sY hf hs rfl rfl rfl (Y_move rfl rfl) ?_; clear hf; intro a hf
  obtain ⟨r1, hc2, hm⟩ := bind_some hm
  refine sCall hf rfl rfl rfl rfl (cap := []) rfl rfl en79 (impl_isSquare_ok F p0_a A_p0_a_1 p0_a.length c_p0_a_1 rfl _ _ hc2 (h_p0_a_1.at hs)) ?_; clear hf
  rintro _ w ⟨rfl, hs1⟩ a hf
  have hs : St [] W w [] := hs.ext hs1.below
  clear hs1
  refine sY hf hs rfl rfl rfl (Y_not rfl rfl) ?_; clear hf; intro a hf
  refine wpO_nil ?_
  refine wpL_cond hf rfl (fun hb3 => ?_) (fun hb3 => ?_)
  · have hm := bif_t hm hb3
    refine wpL_seq ?_
    refine wpL_region ?_
    refine sY hf hs rfl rfl rfl (Y_assign rfl rfl) ?_; clear hf; intro a hf
    refine sY hf hs rfl rfl rfl (Y_assign rfl rfl) ?_; clear hf; intro a hf
    refine wpO_nil ?_
    obtain rfl := Option.some.inj hm
    refine wpL_ret (ret_tmp2 rfl hf rfl rfl ?_)
    exact ⟨_, rfl, rfl, hs⟩
  · have hm := bif_f hm hb3
    refine wpL_skip ?_
    refine wpL_seq ?_
    refine wpL_region ?_
    refine sY hf hs rfl rfl rfl (Y_move rfl rfl) ?_; clear hf; intro a hf
    refine sY hf hs rfl rfl rfl (Y_move rfl rfl) ?_; clear hf; intro a hf
    obtain ⟨r4, hc5, hm⟩ := bind_some hm
    refine sCall hf rfl rfl rfl rfl (cap := []) rfl rfl en95 (impl_cycleWeight_ok F p0_a A_p0_a_1 p0_a.length c_p0_a_1 rfl p1_cycle A_p1_cycle_1 p1_cycle.length c_p1_cycle_1 rfl _ _ hc5 (h_p0_a_1.at hs) (h_p1_cycle_1.at hs) hcap_h_p1_cycle_1) ?_; clear hf
    rintro _ w ⟨rfl, hs1⟩ a hf
    have hs : St [] W w [] := hs.ext hs1.below
    clear hs1
    refine sY hf hs rfl rfl rfl (Y_move rfl rfl) ?_; clear hf; intro a hf
    refine sY hf hs rfl rfl rfl (Y_extract rfl rfl rfl) ?_; clear hf; intro a hf
    refine sY hf hs rfl rfl rfl (Y_extract rfl rfl rfl) ?_; clear hf; intro a hf
    refine sY hf hs rfl rfl rfl (Y_assign rfl rfl) ?_; clear hf; intro a hf
    refine sY hf hs rfl rfl rfl (Y_assign rfl rfl) ?_; clear hf; intro a hf
    refine wpO_nil ?_
    refine wpL_seq ?_
    refine wpL_seq ?_
    refine wpL_region ?_
    refine sY hf hs rfl rfl rfl (Y_move rfl rfl) ?_; clear hf; intro a hf
    refine sY hf hs rfl rfl rfl (Y_not rfl rfl) ?_; clear hf; intro a hf
    refine wpO_nil ?_
    refine wpL_cond hf rfl (fun hb6 => ?_) (fun hb6 => ?_)
    · have hm := bif_t hm hb6
      refine wpL_seq ?_
      refine wpL_region ?_
      refine sY hf hs rfl rfl rfl (Y_assign rfl rfl) ?_; clear hf; intro a hf
      refine sY hf hs rfl rfl rfl (Y_assign rfl rfl) ?_; clear hf; intro a hf
      refine wpO_nil ?_
      obtain rfl := Option.some.inj hm
      refine wpL_ret (ret_tmp2 rfl hf rfl rfl ?_)
      exact ⟨_, rfl, rfl, hs⟩
    · have hm := bif_f hm hb6
      refine wpL_skip ?_
      refine wpL_seq ?_
      refine wpL_region ?_
      refine sY hf hs rfl rfl rfl (Y_move rfl rfl) ?_; clear hf; intro a hf
      obtain ⟨r7, hc8, hm⟩ := bind_some hm
      refine sCall hf rfl rfl rfl rfl (cap := []) rfl rfl en96 (impl_checkedValue_ok F r4.1 _ _ hc8) ?_; clear hf
      rintro _ w ⟨rfl, hs1⟩ a hf
      have hs : St [] W w [] := hs.ext hs1.below
      clear hs1
      refine sY hf hs rfl rfl rfl (Y_extract rfl rfl rfl) ?_; clear hf; intro a hf
      refine sY hf hs rfl rfl rfl (Y_extract rfl rfl rfl) ?_; clear hf; intro a hf
      refine sY hf hs rfl rfl rfl (Y_assign rfl rfl) ?_; clear hf; intro a hf
      refine sY hf hs rfl rfl rfl (Y_assign rfl rfl) ?_; clear hf; intro a hf
      refine wpO_nil ?_
      obtain rfl := Option.some.inj hm
      refine wpL_ret (ret_tmp2 rfl hf rfl rfl ?_)
      exact ⟨_, rfl, rfl, hs⟩

set_option maxRecDepth 100000 in
theorem spec_l01Within_ok (F : Nat) (p0_list : List Int) (A_p0_list_1 : Option Addr) (n_p0_list_1 c_p0_list_1 : Nat) (hn_p0_list_1 : n_p0_list_1 = p0_list.length) (p1_most : Int) (p2_low : Int) (p3_high : Int) (r : Bool) (W : World) (hm : spec_l01Within F p0_list p1_most p2_low p3_high = some r) (h_p0_list_1 : Rd W A_p0_list_1 (ints p0_list)) :
    Calls Try.prog 76 [.slice A_p0_list_1 n_p0_list_1 c_p0_list_1, .int .i64 p1_most, .int .i64 p2_low, .int .i64 p3_high].toArray W fun e w' => ∃ v, e = .returned v ∧ v = .bool r ∧ St [] W w' [] := by
  subst hn_p0_list_1
  unfold spec_l01Within at hm
  refine Calls.enter (N := 28) Try.func76 rfl rfl rfl (fun a hf => ?_)
  have hs := St.start W
  obtain ⟨w, hw_⟩ : ∃ w, w = W := ⟨W, rfl⟩
  clear hw_ w
  refine wpL_seq ?_
  refine wpL_region ?_
  refine sY hf hs rfl rfl rfl (Y_assign rfl rfl) ?_; clear hf; intro a hf
  refine wpO_nil ?_
  refine wpL_seq ?_
  refine wpL_seq ?_
  refine wpL_region ?_
  refine sY hf hs rfl rfl rfl (Y_assign rfl rfl) ?_; clear hf; intro a hf
  refine wpO_nil ?_
  obtain ⟨r21, hl22, hm⟩ := bind_some hm
  refine wpL_block (fun a w => Sum.inr () = r21 ∧ Fr a 28 [(0, .slice A_p0_list_1 p0_list.length c_p0_list_1), (1, .int .i64 p1_most)] ∧ St [] W w []) ?_ ?_
  · refine wpL_loop (fun n a w => ∃ x14 : Int, spec_l01Within_L1 F p0_list p2_low p3_high n x14 = some r21 ∧ Fr a 28 [(0, .slice A_p0_list_1 p0_list.length c_p0_list_1), (1, .int .i64 p1_most), (2, .int .i64 p2_low), (3, .int .i64 p3_high), (9, .int .i64 x14)] ∧ St [] W w []) F ?_ ?_ ?_
    · exact ⟨0, hl22, (FrD.pick (FrD.pick (FrD.pick (FrD.pick (FrD.pick hf.none hf rfl) hf rfl) hf rfl) hf rfl) hf rfl), hs⟩
    · rintro a w ⟨x14, h0_, -, -⟩; simp [spec_l01Within_L1] at h0_
    · rintro n24 a w ⟨x14, hm23, hf, hs⟩
      rw [spec_l01Within_L1] at hm23
      refine wpL_seq ?_
      refine wpL_seq ?_
      refine wpL_region ?_
      refine sY hf hs rfl rfl rfl (Y_move rfl rfl) ?_; clear hf; intro a hf
      refine sY hf hs rfl rfl rfl (Y_move rfl rfl) ?_; clear hf; intro a hf
      refine sY hf hs rfl rfl rfl (Y_lenH rfl rfl el28 rfl) ?_; clear hf; intro a hf
      refine sY hf hs rfl rfl rfl (Y_lss rfl rfl rfl) ?_; clear hf; intro a hf
      refine wpO_nil ?_
      refine wpL_cond hf rfl (fun hb25 => ?_) (fun hb25 => ?_)
      · have hm23 := bif_t hm23 hb25
        refine wpL_skip ?_
        refine wpL_seq ?_
        refine wpL_block0 ?_
        refine wpL_seq ?_
        refine wpL_region ?_
        refine sY hf hs rfl rfl rfl (Y_move rfl rfl) ?_; clear hf; intro a hf
        refine sY hf hs rfl rfl rfl (Y_move rfl rfl) ?_; clear hf; intro a hf
        obtain ⟨q26, hi27, hm23⟩ := bind_some hm23
        obtain ⟨hi27a, hi27b, hi27q⟩ := idx_some hi27
        refine sY hf hs rfl rfl rfl (Y_index rfl rfl rfl el28 ti2 (Rd.isAt (h_p0_list_1.at hs) (at1 (ints_at hi27q))) hi27a hi27b) ?_; clear hf; intro a hf
        refine sY hf hs rfl rfl rfl (Y_load_rd rfl rfl (fun w hs => h_p0_list_1.at hs) (at1 (ints_at hi27q)) ag2) ?_; clear hf; intro a hf
        refine sY hf hs rfl rfl rfl (Y_move rfl rfl) ?_; clear hf; intro a hf
        refine sY hf hs rfl rfl rfl (Y_move rfl rfl) ?_; clear hf; intro a hf
        obtain ⟨r28, hc29, hm23⟩ := bind_some hm23
        refine sCall hf rfl rfl rfl rfl (cap := []) rfl rfl en77 (spec_l01In_ok F q26 p2_low p3_high _ _ hc29) ?_; clear hf
        rintro _ w ⟨rfl, hs1⟩ a hf
        have hs : St [] W w [] := hs.ext hs1.below
        clear hs1
        refine sY hf hs rfl rfl rfl (Y_not rfl rfl) ?_; clear hf; intro a hf
        refine wpO_nil ?_
        refine wpL_cond hf rfl (fun hb30 => ?_) (fun hb30 => ?_)
        · have hm23 := bif_t hm23 hb30
          refine wpL_seq ?_
          refine wpL_region ?_
          refine sY hf hs rfl rfl rfl (Y_assign rfl rfl) ?_; clear hf; intro a hf
          refine wpO_nil ?_
          obtain rfl := Option.some.inj hm23
          try dsimp only at hm
          obtain rfl := Option.some.inj hm
          refine wpL_ret (Qb_ret (Ql_ret (Qb_ret (ret_tmp rfl hf rfl ?_))))
          exact ⟨_, rfl, rfl, hs⟩
        · have hm23 := bif_f hm23 hb30
          refine wpL_skip ?_
          refine wpL_nil (Qb_normal ?_)
          refine wpL_region ?_
          refine sY hf hs rfl rfl rfl (Y_move rfl rfl) ?_; clear hf; intro a hf
          refine sY hf hs rfl rfl rfl (Y_add rfl rfl rfl) ?_; clear hf; intro a hf
          refine sY hf hs rfl rfl rfl (Y_assign rfl rfl) ?_; clear hf; intro a hf
          refine wpO_nil ?_
          refine wpL_nil (Ql_normal ?_)
          exact ⟨(IntKind.i64.wrap (x14 + 1)), hm23, (FrD.pick (FrD.pick (FrD.pick (FrD.pick (FrD.pick hf.none hf rfl) hf rfl) hf rfl) hf rfl) hf rfl), hs⟩
      · have hm23 := bif_f hm23 hb25
        refine wpL_exit (Ql_exit (Qb_exit ?_))
        exact ⟨Option.some.inj hm23, (FrD.pick (FrD.pick hf.none hf rfl) hf rfl), hs⟩
  · rintro a w ⟨hr_, hf, hs⟩
    subst hr_
    try dsimp only at hm
    refine wpL_seq ?_
    refine wpL_region ?_
    refine sY hf hs rfl rfl rfl (Y_move rfl rfl) ?_; clear hf; intro a hf
    refine sY hf hs rfl rfl rfl (Y_lenH rfl rfl el28 rfl) ?_; clear hf; intro a hf
    refine sY hf hs rfl rfl rfl (Y_move rfl rfl) ?_; clear hf; intro a hf
    refine sY hf hs rfl rfl rfl (Y_leq rfl rfl rfl) ?_; clear hf; intro a hf
    refine sY hf hs rfl rfl rfl (Y_assign rfl rfl) ?_; clear hf; intro a hf
    refine wpO_nil ?_
    obtain rfl := Option.some.inj hm
    refine wpL_ret (ret_tmp rfl hf rfl ?_)
    exact ⟨_, rfl, rfl, hs⟩

set_option maxRecDepth 100000 in
theorem spec_l03Nodes_ok (F : Nat) (p0_a : List (List Int)) (A_p0_a_1 : Option Addr) (n_p0_a_1 c_p0_a_1 : Nat) (hn_p0_a_1 : n_p0_a_1 = p0_a.length) (p1_list : List Int) (A_p1_list_1 : Option Addr) (n_p1_list_1 c_p1_list_1 : Nat) (hn_p1_list_1 : n_p1_list_1 = p1_list.length) (r : Bool) (W : World) (hm : spec_l03Nodes F p0_a p1_list = some r) (_h_p0_a_1 : RdM W A_p0_a_1 p0_a) (h_p1_list_1 : Rd W A_p1_list_1 (ints p1_list)) :
    Calls Try.prog 165 [.slice A_p0_a_1 n_p0_a_1 c_p0_a_1, .slice A_p1_list_1 n_p1_list_1 c_p1_list_1].toArray W fun e w' => ∃ v, e = .returned v ∧ v = .bool r ∧ St [] W w' [] := by
  subst hn_p0_a_1
  subst hn_p1_list_1
  unfold spec_l03Nodes at hm
  refine Calls.enter (N := 12) Try.func165 rfl rfl rfl (fun a hf => ?_)
  have hs := St.start W
  obtain ⟨w, hw_⟩ : ∃ w, w = W := ⟨W, rfl⟩
  clear hw_ w
  refine wpL_seq ?_
  refine wpL_region ?_
  refine sY hf hs rfl rfl rfl (Y_assign rfl rfl) ?_; clear hf; intro a hf
  refine wpO_nil ?_
  refine wpL_seq ?_
  refine wpL_region ?_
  refine sY hf hs rfl rfl rfl (Y_move rfl rfl) ?_; clear hf; intro a hf
  refine sY hf hs rfl rfl rfl (Y_move rfl rfl) ?_; clear hf; intro a hf
  refine sY hf hs rfl rfl rfl (Y_lenH rfl rfl el28 rfl) ?_; clear hf; intro a hf
  refine sY hf hs rfl rfl rfl (Y_move rfl rfl) ?_; clear hf; intro a hf
  refine sY hf hs rfl rfl rfl (Y_lenH rfl rfl el40 rfl) ?_; clear hf; intro a hf
  refine sY hf hs rfl rfl rfl (Y_sub rfl rfl rfl) ?_; clear hf; intro a hf
  obtain ⟨r1, hc2, hm⟩ := bind_some hm
  refine sCall hf rfl rfl rfl rfl (cap := []) rfl rfl en76 (spec_l01Within_ok F p1_list A_p1_list_1 p1_list.length c_p1_list_1 rfl (p1_list.length : Int) 0 (IntKind.i64.wrap ((p0_a.length : Int) - 1)) _ _ hc2 (h_p1_list_1.at hs)) ?_; clear hf
  rintro _ w ⟨rfl, hs1⟩ a hf
  have hs : St [] W w [] := hs.ext hs1.below
  clear hs1
  refine sY hf hs rfl rfl rfl (Y_assign rfl rfl) ?_; clear hf; intro a hf
  refine wpO_nil ?_
  obtain rfl := Option.some.inj hm
  refine wpL_ret (ret_tmp rfl hf rfl ?_)
  exact ⟨_, rfl, rfl, hs⟩

set_option maxRecDepth 100000 in
theorem spec_l03Walk_ok (F : Nat) (p0_a : List (List Int)) (A_p0_a_1 : Option Addr) (n_p0_a_1 c_p0_a_1 : Nat) (hn_p0_a_1 : n_p0_a_1 = p0_a.length) (p1_list : List Int) (A_p1_list_1 : Option Addr) (n_p1_list_1 c_p1_list_1 : Nat) (hn_p1_list_1 : n_p1_list_1 = p1_list.length) (r : Int × Bool) (W : World) (hm : spec_l03Walk F p0_a p1_list = some r) (h_p0_a_1 : RdM W A_p0_a_1 p0_a) (h_p1_list_1 : Rd W A_p1_list_1 (ints p1_list)) :
    Calls Try.prog 167 [.slice A_p0_a_1 n_p0_a_1 c_p0_a_1, .slice A_p1_list_1 n_p1_list_1 c_p1_list_1].toArray W fun e w' => ∃ v, e = .returned v ∧ v = .tuple #[.int .i64 r.1, .bool r.2] ∧ St [] W w' [] := by
  subst hn_p0_a_1
  subst hn_p1_list_1
  unfold spec_l03Walk at hm
  refine Calls.enter (N := 35) Try.func167 rfl rfl rfl (fun a hf => ?_)
  have hs := St.start W
  obtain ⟨w, hw_⟩ : ∃ w, w = W := ⟨W, rfl⟩
  clear hw_ w
  refine wpL_seq ?_
  refine wpL_region ?_
  refine sY hf hs rfl rfl rfl (Y_assign rfl rfl) ?_; clear hf; intro a hf
  refine sY hf hs rfl rfl rfl (Y_assign rfl rfl) ?_; clear hf; intro a hf
  refine wpO_nil ?_
  refine wpL_seq ?_
  refine wpL_region ?_
  refine sY hf hs rfl rfl rfl (Y_assign rfl rfl) ?_; clear hf; intro a hf
  refine wpO_nil ?_
  refine wpL_seq ?_
  refine wpL_seq ?_
  refine wpL_region ?_
  refine sY hf hs rfl rfl rfl (Y_assign rfl rfl) ?_; clear hf; intro a hf
  refine wpO_nil ?_
  obtain ⟨r57, hl58, hm⟩ := bind_some hm
  refine wpL_block (fun a w => ∃ x56 : Int, Sum.inr x56 = r57 ∧ Fr a 35 [(6, .int .i64 x56)] ∧ St [] W w []) ?_ ?_
  · refine wpL_loop (fun n a w => ∃ x37 : Int, ∃ x38 : Int, spec_l03Walk_L1 F p0_a p1_list n x37 x38 = some r57 ∧ Fr a 35 [(0, .slice A_p0_a_1 p0_a.length c_p0_a_1), (1, .slice A_p1_list_1 p1_list.length c_p1_list_1), (6, .int .i64 x37), (7, .int .i64 x38)] ∧ St [] W w []) F ?_ ?_ ?_
    · exact ⟨0, 1, hl58, (FrD.pick (FrD.pick (FrD.pick (FrD.pick hf.none hf rfl) hf rfl) hf rfl) hf rfl), hs⟩
    · rintro a w ⟨x37, x38, h0_, -, -⟩; simp [spec_l03Walk_L1] at h0_
    · rintro n60 a w ⟨x37, x38, hm59, hf, hs⟩
      rw [spec_l03Walk_L1] at hm59
      refine wpL_seq ?_
      refine wpL_seq ?_
      refine wpL_region ?_
      refine sY hf hs rfl rfl rfl (Y_move rfl rfl) ?_; clear hf; intro a hf
      refine sY hf hs rfl rfl rfl (Y_move rfl rfl) ?_; clear hf; intro a hf
      refine sY hf hs rfl rfl rfl (Y_lenH rfl rfl el28 rfl) ?_; clear hf; intro a hf
      refine sY hf hs rfl rfl rfl (Y_lss rfl rfl rfl) ?_; clear hf; intro a hf
      refine wpO_nil ?_
      refine wpL_cond hf rfl (fun hb61 => ?_) (fun hb61 => ?_)
      · have hm59 := bif_t hm59 hb61
        refine wpL_skip ?_
        refine wpL_seq ?_
        refine wpL_block0 ?_
        refine wpL_seq ?_
        refine wpL_draw (by kernel_rfl) (by kernel_rfl) hs ?_
        refine qY hf rfl rfl rfl (Y_move rfl rfl) ?_; clear hf; intro a hf
        refine qY hf rfl rfl rfl (Y_move rfl rfl) ?_; clear hf; intro a hf
        refine qY hf rfl rfl rfl (Y_move rfl rfl) ?_; clear hf; intro a hf
        obtain ⟨q62, hi63, hm59⟩ := bind_some hm59
        obtain ⟨hi63a, hi63b, hi63q⟩ := idx_some hi63
        refine qY hf rfl rfl rfl (Y_index rfl rfl rfl el28 ti2 (Rd.isAt (h_p1_list_1.at hs) (at1 (ints_at hi63q))) hi63a hi63b) ?_; clear hf; intro a hf
        refine qY hf rfl rfl rfl (Y_load_rd rfl rfl (fun w hs => h_p1_list_1.at hs) (at1 (ints_at hi63q)) ag2) ?_; clear hf; intro a hf
        obtain ⟨q64, hi65, hm59⟩ := bind_some hm59
        obtain ⟨hi65a, hi65b, hi65q⟩ := idx_some hi65
        obtain ⟨vs66, hv67, hr68⟩ := id h_p0_a_1
        obtain ⟨A69, c70, hv71, hR72⟩ := hr68 _ _ hi65q
        refine qY hf rfl rfl rfl (Y_index rfl rfl rfl el40 ti28 (Rd.isAt hv67 hv71) hi65a hi65b) ?_; clear hf; intro a hf
        refine qY hf rfl rfl rfl (Y_load_rd rfl rfl (fun w hs => hv67.at hs) (at1 hv71) ag28) ?_; clear hf; intro a hf
        refine qY hf rfl rfl rfl (Y_move rfl rfl) ?_; clear hf; intro a hf
        refine qY hf rfl rfl rfl (Y_move rfl rfl) ?_; clear hf; intro a hf
        refine qY hf rfl rfl rfl (Y_sub rfl rfl rfl) ?_; clear hf; intro a hf
        obtain ⟨q73, hi74, hm59⟩ := bind_some hm59
        obtain ⟨hi74a, hi74b, hi74q⟩ := idx_some hi74
        refine qY hf rfl rfl rfl (Y_index rfl rfl rfl el28 ti2 (Rd.isAt (h_p1_list_1.at hs) (at1 (ints_at hi74q))) hi74a hi74b) ?_; clear hf; intro a hf
        refine qY hf rfl rfl rfl (Y_load_rd rfl rfl (fun w hs => h_p1_list_1.at hs) (at1 (ints_at hi74q)) ag2) ?_; clear hf; intro a hf
        obtain ⟨q75, hi76, hm59⟩ := bind_some hm59
        obtain ⟨hi76a, hi76b, hi76q⟩ := idx_some hi76
        refine qY hf rfl rfl rfl (Y_index rfl rfl rfl el28 ti2 (Rd.isAt (hR72.at hs) (at1 (ints_at hi76q))) hi76a hi76b) ?_; clear hf; intro a hf
        refine qY hf rfl rfl rfl (Y_load_rd rfl rfl (fun w hs => hR72.at hs) (at1 (ints_at hi76q)) ag2) ?_; clear hf; intro a hf
        refine qY hf rfl rfl rfl (Y_assign rfl rfl) ?_; clear hf; intro a hf
        refine qNil ?_; clear hs; intro w hs
        refine wpL_seq ?_
        refine wpL_seq ?_
        refine wpL_region ?_
        refine sY hf hs rfl rfl rfl (Y_move rfl rfl) ?_; clear hf; intro a hf
        refine sY hf hs rfl rfl rfl (Y_eql rfl rfl rfl) ?_; clear hf; intro a hf
        refine wpO_nil ?_
        refine wpL_cond hf rfl (fun hb77 => ?_) (fun hb77 => ?_)
        · have hm59 := bif_t hm59 hb77
          refine wpL_seq ?_
          refine wpL_region ?_
          refine sY hf hs rfl rfl rfl (Y_assign rfl rfl) ?_; clear hf; intro a hf
          refine sY hf hs rfl rfl rfl (Y_assign rfl rfl) ?_; clear hf; intro a hf
          refine wpO_nil ?_
          obtain rfl := Option.some.inj hm59
          try dsimp only at hm
          obtain rfl := Option.some.inj hm
          refine wpL_ret (Qb_ret (Ql_ret (Qb_ret (ret_tmp2 rfl hf rfl rfl ?_))))
          exact ⟨_, rfl, rfl, hs⟩
        · have hm59 := bif_f hm59 hb77
          refine wpL_skip ?_
          refine wpL_region ?_
          refine sY hf hs rfl rfl rfl (Y_move rfl rfl) ?_; clear hf; intro a hf
          refine sY hf hs rfl rfl rfl (Y_move rfl rfl) ?_; clear hf; intro a hf
          refine sY hf hs rfl rfl rfl (Y_add rfl rfl rfl) ?_; clear hf; intro a hf
          refine sY hf hs rfl rfl rfl (Y_assign rfl rfl) ?_; clear hf; intro a hf
          refine wpO_nil ?_
          refine wpL_nil (Qb_normal ?_)
          refine wpL_region ?_
          refine sY hf hs rfl rfl rfl (Y_move rfl rfl) ?_; clear hf; intro a hf
          refine sY hf hs rfl rfl rfl (Y_add rfl rfl rfl) ?_; clear hf; intro a hf
          refine sY hf hs rfl rfl rfl (Y_assign rfl rfl) ?_; clear hf; intro a hf
          refine wpO_nil ?_
          refine wpL_nil (Ql_normal ?_)
          exact ⟨(IntKind.i64.wrap (x37 + q75)), (IntKind.i64.wrap (x38 + 1)), hm59, (FrD.pick (FrD.pick (FrD.pick (FrD.pick hf.none hf rfl) hf rfl) hf rfl) hf rfl), hs⟩
      · have hm59 := bif_f hm59 hb61
        refine wpL_exit (Ql_exit (Qb_exit ?_))
        exact ⟨x37, Option.some.inj hm59, (FrD.pick hf.none hf rfl), hs⟩
  · rintro a w ⟨x56, hr_, hf, hs⟩
    subst hr_
    try dsimp only at hm
    refine wpL_seq ?_
    refine wpL_region ?_
    refine sY hf hs rfl rfl rfl (Y_move rfl rfl) ?_; clear hf; intro a hf
    refine sY hf hs rfl rfl rfl (Y_assign rfl rfl) ?_; clear hf; intro a hf
    refine sY hf hs rfl rfl rfl (Y_assign rfl rfl) ?_; clear hf; intro a hf
    refine wpO_nil ?_
    obtain rfl := Option.some.inj hm
    refine wpL_ret (ret_tmp2 rfl hf rfl rfl ?_)
    exact ⟨_, rfl, rfl, hs⟩

set_option maxRecDepth 100000 in
theorem spec_l03Cycle_ok (F : Nat) (p0_a : List (List Int)) (A_p0_a_1 : Option Addr) (n_p0_a_1 c_p0_a_1 : Nat) (hn_p0_a_1 : n_p0_a_1 = p0_a.length) (p1_cycle : List Int) (A_p1_cycle_1 : Option Addr) (n_p1_cycle_1 c_p1_cycle_1 : Nat) (hn_p1_cycle_1 : n_p1_cycle_1 = p1_cycle.length) (r : Int × Bool) (W : World) (hm : spec_l03Cycle F p0_a p1_cycle = some r) (h_p0_a_1 : RdM W A_p0_a_1 p0_a) (h_p1_cycle_1 : Rd W A_p1_cycle_1 (ints p1_cycle)) (hcap_h_p1_cycle_1 : n_p1_cycle_1 ≤ c_p1_cycle_1) :
    Calls Try.prog 97 [.slice A_p0_a_1 n_p0_a_1 c_p0_a_1, .slice A_p1_cycle_1 n_p1_cycle_1 c_p1_cycle_1].toArray W fun e w' => ∃ v, e = .returned v ∧ v = .tuple #[.int .i64 r.1, .bool r.2] ∧ St [] W w' [] := by
  subst hn_p0_a_1
  subst hn_p1_cycle_1
  unfold spec_l03Cycle at hm
  refine Calls.enter (N := 41) Try.func97 rfl rfl rfl (fun a hf => ?_)
  have hs := St.start W
  obtain ⟨w, hw_⟩ : ∃ w, w = W := ⟨W, rfl⟩
  clear hw_ w
  refine wpL_seq ?_
  refine wpL_region ?_
  refine sY hf hs rfl rfl rfl (Y_assign rfl rfl) ?_; clear hf; intro a hf
  refine sY hf hs rfl rfl rfl (Y_assign rfl rfl) ?_; clear hf; intro a hf
  refine wpO_nil ?_
  refine wpL_seq ?_
  refine wpL_seq ?_
  obtain ⟨r5, hj6, hm⟩ := bind_some hm
  refine wpL_cut (fun a w => ∃ b4 : Bool, b4 = r5 ∧ Fr a 41 [(0, .slice A_p0_a_1 p0_a.length c_p0_a_1), (1, .slice A_p1_cycle_1 p1_cycle.length c_p1_cycle_1), (15, .bool b4)] ∧ St [] W w []) ?_ ?_
  · refine wpL_region ?_
    refine sY hf hs rfl rfl rfl (Y_move rfl rfl) ?_; clear hf; intro a hf
    refine sY hf hs rfl rfl rfl (Y_lenH rfl rfl el28 rfl) ?_; clear hf; intro a hf
    refine sY hf hs rfl rfl rfl (Y_eql rfl rfl rfl) ?_; clear hf; intro a hf
    refine sY hf hs rfl rfl rfl (Y_move rfl rfl) ?_; clear hf; intro a hf
    refine bsplit ((p1_cycle.length : Int) == 0) (fun hb7 => ?_) (fun hb7 => ?_)
    · have hj6 := bif_t hj6 hb7
      refine sNo hf rfl rfl rfl (congrArg (fun b => some (Value.bool b)) hb7) rfl rfl rfl ?_; clear hf; intro a hf
      refine sNo hf rfl rfl rfl (congrArg (fun b => some (Value.bool b)) hb7) rfl rfl rfl ?_; clear hf; intro a hf
      refine sNo hf rfl rfl rfl (congrArg (fun b => some (Value.bool b)) hb7) rfl rfl rfl ?_; clear hf; intro a hf
      refine sNo hf rfl rfl rfl (congrArg (fun b => some (Value.bool b)) hb7) rfl rfl rfl ?_; clear hf; intro a hf
      refine sY hf hs rfl rfl rfl (Y_pickT rfl (congrArg (fun b => some (Value.bool b)) hb7) rfl) ?_; clear hf; intro a hf
      refine wpO_nil ?_
      refine wpL_nil (then_normal ?_)
      exact ⟨true, Option.some.inj hj6, (FrD.pick (FrD.pick (FrD.pick hf.none hf rfl) hf rfl) hf rfl), hs⟩
    · have hj6 := bif_f hj6 hb7
      refine sYg hf hs rfl rfl rfl (congrArg (fun b => some (Value.bool b)) hb7) rfl rfl rfl (Y_move rfl rfl) ?_; clear hf; intro a hf
      refine sYg hf hs rfl rfl rfl (congrArg (fun b => some (Value.bool b)) hb7) rfl rfl rfl (Y_move rfl rfl) ?_; clear hf; intro a hf
      obtain ⟨r8, hc9, hj6⟩ := bind_some hj6
      refine sCallg hf rfl rfl rfl (congrArg (fun b => some (Value.bool b)) hb7) rfl rfl rfl rfl (cap := []) rfl rfl en165 (spec_l03Nodes_ok F p0_a A_p0_a_1 p0_a.length c_p0_a_1 rfl p1_cycle A_p1_cycle_1 p1_cycle.length c_p1_cycle_1 rfl _ _ hc9 (h_p0_a_1.at hs) (h_p1_cycle_1.at hs)) ?_; clear hf
      rintro _ w ⟨rfl, hs1⟩ a hf
      have hs : St [] W w [] := hs.ext hs1.below
      clear hs1
      refine sYg hf hs rfl rfl rfl (congrArg (fun b => some (Value.bool b)) hb7) rfl rfl rfl (Y_not rfl rfl) ?_; clear hf; intro a hf
      refine sY hf hs rfl rfl rfl (Y_pickF rfl (congrArg (fun b => some (Value.bool b)) hb7) rfl) ?_; clear hf; intro a hf
      refine wpO_nil ?_
      refine wpL_nil (then_normal ?_)
      exact ⟨(!r8), Option.some.inj hj6, (FrD.pick (FrD.pick (FrD.pick hf.none hf rfl) hf rfl) hf rfl), hs⟩
  · rintro a w ⟨b4, hr_, hf, hs⟩
    subst hr_
    try dsimp only at hm
    refine wpL_cond hf rfl (fun hb10 => ?_) (fun hb10 => ?_)
    · have hm := bif_t hm hb10
      refine wpL_seq ?_
      refine wpL_region ?_
      refine sY hf hs rfl rfl rfl (Y_assign rfl rfl) ?_; clear hf; intro a hf
      refine sY hf hs rfl rfl rfl (Y_assign rfl rfl) ?_; clear hf; intro a hf
      refine wpO_nil ?_
      obtain rfl := Option.some.inj hm
      refine wpL_ret (ret_tmp2 rfl hf rfl rfl ?_)
      exact ⟨_, rfl, rfl, hs⟩
    · have hm := bif_f hm hb10
      refine wpL_skip ?_
      refine wpL_seq ?_
      refine wpL_seq ?_
      refine wpL_region ?_
      refine sY hf hs rfl rfl rfl (Y_assign rfl rfl) ?_; clear hf; intro a hf
      refine wpO_nil ?_
      obtain ⟨r37, hl38, hm⟩ := bind_some hm
      refine wpL_block (fun a w => Sum.inr () = r37 ∧ Fr a 41 [(0, .slice A_p0_a_1 p0_a.length c_p0_a_1), (1, .slice A_p1_cycle_1 p1_cycle.length c_p1_cycle_1)] ∧ St [] W w []) ?_ ?_
      · refine wpL_loop (fun n a w => ∃ x28 : Int, spec_l03Cycle_L1 F p1_cycle n x28 = some r37 ∧ Fr a 41 [(0, .slice A_p0_a_1 p0_a.length c_p0_a_1), (1, .slice A_p1_cycle_1 p1_cycle.length c_p1_cycle_1), (6, .int .i64 x28)] ∧ St [] W w []) F ?_ ?_ ?_
        · exact ⟨0, hl38, (FrD.pick (FrD.pick (FrD.pick hf.none hf rfl) hf rfl) hf rfl), hs⟩
        · rintro a w ⟨x28, h0_, -, -⟩; simp [spec_l03Cycle_L1] at h0_
        · rintro n40 a w ⟨x28, hm39, hf, hs⟩
          rw [spec_l03Cycle_L1] at hm39
          refine wpL_seq ?_
          refine wpL_seq ?_
          refine wpL_region ?_
          refine sY hf hs rfl rfl rfl (Y_move rfl rfl) ?_; clear hf; intro a hf
          refine sY hf hs rfl rfl rfl (Y_move rfl rfl) ?_; clear hf; intro a hf
          refine sY hf hs rfl rfl rfl (Y_lenH rfl rfl el28 rfl) ?_; clear hf; intro a hf
          refine sY hf hs rfl rfl rfl (Y_lss rfl rfl rfl) ?_; clear hf; intro a hf
          refine wpO_nil ?_
          refine wpL_cond hf rfl (fun hb41 => ?_) (fun hb41 => ?_)
          · have hm39 := bif_t hm39 hb41
            refine wpL_skip ?_
            refine wpL_seq ?_
            refine wpL_block0 ?_
            refine wpL_seq ?_
            refine wpL_draw (by kernel_rfl) (by kernel_rfl) hs ?_
            refine qY hf rfl rfl rfl (Y_move rfl rfl) ?_; clear hf; intro a hf
            refine qY hf rfl rfl rfl (Y_move rfl rfl) ?_; clear hf; intro a hf
            obtain ⟨xs43, hk42, hm39⟩ := bind_some hm39
            refine qY hf rfl rfl rfl (Y_sliceH rfl rfl rfl (cutTo_some hk42).1 (leC rfl hcap_h_p1_cycle_1 hk42) el28 ti2) ?_; clear hf; intro a hf
            refine qY hf rfl rfl rfl (Y_move rfl rfl) ?_; clear hf; intro a hf
            refine qY hf rfl rfl rfl (Y_move rfl rfl) ?_; clear hf; intro a hf
            obtain ⟨q44, hi45, hm39⟩ := bind_some hm39
            obtain ⟨hi45a, hi45b, hi45q⟩ := idx_some hi45
            refine qY hf rfl rfl rfl (Y_index rfl rfl rfl el28 ti2 (Rd.isAt (h_p1_cycle_1.at hs) (at1 (ints_at hi45q))) hi45a hi45b) ?_; clear hf; intro a hf
            refine qY hf rfl rfl rfl (Y_load_rd rfl rfl (fun w hs => h_p1_cycle_1.at hs) (at1 (ints_at hi45q)) ag2) ?_; clear hf; intro a hf
            obtain ⟨r46, hc47, hm39⟩ := bind_some hm39
            refine qCall hf rfl rfl rfl rfl (cap := []) rfl rfl en166 (v := .bool r46) (fun w hs => Calls.scal (spec_l01Has_ok F xs43 A_p1_cycle_1 ((x28 : Int).toNat) c_p1_cycle_1 (pre_len hk42) q44 _ _ hc47 ((Rd.preInts h_p1_cycle_1 hk42).at hs))) ?_; clear hf; intro a hf
            refine qNil ?_; clear hs; intro w hs
            refine wpL_cond hf rfl (fun hb48 => ?_) (fun hb48 => ?_)
            · have hm39 := bif_t hm39 hb48
              refine wpL_seq ?_
              refine wpL_region ?_
              refine sY hf hs rfl rfl rfl (Y_assign rfl rfl) ?_; clear hf; intro a hf
              refine sY hf hs rfl rfl rfl (Y_assign rfl rfl) ?_; clear hf; intro a hf
              refine wpO_nil ?_
              obtain rfl := Option.some.inj hm39
              try dsimp only at hm
              obtain rfl := Option.some.inj hm
              refine wpL_ret (Qb_ret (Ql_ret (Qb_ret (ret_tmp2 rfl hf rfl rfl ?_))))
              exact ⟨_, rfl, rfl, hs⟩
            · have hm39 := bif_f hm39 hb48
              refine wpL_skip ?_
              refine wpL_nil (Qb_normal ?_)
              refine wpL_region ?_
              refine sY hf hs rfl rfl rfl (Y_move rfl rfl) ?_; clear hf; intro a hf
              refine sY hf hs rfl rfl rfl (Y_add rfl rfl rfl) ?_; clear hf; intro a hf
              refine sY hf hs rfl rfl rfl (Y_assign rfl rfl) ?_; clear hf; intro a hf
              refine wpO_nil ?_
              refine wpL_nil (Ql_normal ?_)
              exact ⟨(IntKind.i64.wrap (x28 + 1)), hm39, (FrD.pick (FrD.pick (FrD.pick hf.none hf rfl) hf rfl) hf rfl), hs⟩
          · have hm39 := bif_f hm39 hb41
            refine wpL_exit (Ql_exit (Qb_exit ?_))
            exact ⟨Option.some.inj hm39, (FrD.pick (FrD.pick hf.none hf rfl) hf rfl), hs⟩
      · rintro a w ⟨hr_, hf, hs⟩
        subst hr_
        try dsimp only at hm
        refine wpL_seq ?_
        obtain ⟨r97, hj98, hm⟩ := bind_some hm
        refine wpL_cut (fun a w => ∃ x95 : Int, ∃ b96 : Bool, (x95, b96) = r97 ∧ Fr a 41 [(4, .int .i64 x95), (5, .bool b96)] ∧ St [] W w []) ?_ ?_
        · refine wpL_drawM [] [6, 7, 8] (by kernel_rfl) hs ?_; clear hs; intro w hs
          have hs0 : St [] W w [] := hs
          refine mYp (i := 0) rfl (by kernel_rfl) (by kernel_rfl) hf rfl rfl rfl (fun _ => Y_move rfl rfl) ?_; clear hf; intro a hf
          refine mYp (i := 1) rfl (by kernel_rfl) (by kernel_rfl) hf rfl rfl rfl (fun _ => Y_move rfl rfl) ?_; clear hf; intro a hf
          refine mYp (i := 3) rfl (by kernel_rfl) (by kernel_rfl) hf rfl rfl rfl (fun _ => Y_move rfl rfl) ?_; clear hf; intro a hf
          obtain ⟨q115, hi116, hj98⟩ := bind_some hj98
          obtain ⟨hi116a, hi116b, hi116q⟩ := idx_some hi116
          refine mYp (i := 4) rfl (by kernel_rfl) (by kernel_rfl) hf rfl rfl rfl (fun _ => Y_index rfl rfl rfl el28 ti2 (Rd.isAt (h_p1_cycle_1.at hs) (at1 (ints_at hi116q))) hi116a hi116b) ?_; clear hf; intro a hf
          refine mY (i := 5) [[], [6], [6, 7]] rfl (by kernel_rfl) (by kernel_rfl) hf hs0 rfl rfl rfl (Y_load_rd rfl rfl (fun w hs => h_p1_cycle_1.at hs) (at1 (ints_at hi116q)) ag2) ?_; clear hf; intro a hf
          refine mRun2 (i := 2) (j := 6) rfl rfl (by kernel_rfl) ?_ ?_
          · obtain ⟨r117, hc118, hj98⟩ := bind_some hj98
            refine sCall hf rfl rfl rfl rfl (cap := []) rfl rfl en114 (spec_l01Own_ok F p1_cycle A_p1_cycle_1 p1_cycle.length c_p1_cycle_1 rfl _ _ hc118 (h_p1_cycle_1.at hs)) ?_; clear hf
            rintro _ w ⟨A119, n120, c121, rfl, hn122, hs1⟩ a hf
            have hs : St [] W w [.row A119 n120 c121 2 1 (ints r117)] := hs.join hs1
            clear hs1
            have hs0 : St [] W w [] := hs.sel [] (by decide)
            refine wpO_nil ⟨Or.inr (fun _ => hs0), ?_⟩
            refine mRun (i := 6) rfl (by kernel_rfl) ?_
            refine sBuildSlice (parts := [(0, .tmp 35)]) (vs := [.int .i64 q115]) (cells := [.int .i64 q115]) hf hs rfl rfl rfl rfl rfl el28 ti2 rfl rfl rfl rfl ?_; clear hf hs; intro a w A123 hs hA124 hf
            have hs : St [] W w [.row A119 n120 c121 2 1 (ints r117), .row A123 1 1 2 1 (ints ([q115]))] := hs
            refine wpO_nil ⟨Or.inl (by decide), ?_⟩
            refine mRun (i := 7) rfl (by kernel_rfl) ?_
            obtain ⟨xs127, ha128, hj98⟩ := bind_some hj98
            refine sAppendL (i := 0) (xs := r117) (ys := [q115]) (enc := ints) hf hs rfl rfl rfl rfl rfl rfl hn122 rfl rfl ha128 el28 ti2 rfl rfl rfl (hs.rd (i := 1) rfl) (Nat.succ_pos _) ints_len1 ints_append ints_one ?_; clear hf hs; intro a w A125 c126 hs hf
            have hs : St [] W w [.row A125 xs127.length c126 2 1 (ints xs127), .row A123 1 1 2 1 (ints ([q115]))] := hs
            refine wpO_nil ⟨Or.inl (by decide), ?_⟩
            refine mRun (i := 8) rfl (by kernel_rfl) ?_
            obtain ⟨r129, hc130, hj98⟩ := bind_some hj98
            refine sCall hf rfl rfl rfl rfl (cap := []) rfl rfl en167 (spec_l03Walk_ok F p0_a A_p0_a_1 p0_a.length c_p0_a_1 rfl xs127 A125 xs127.length c126 rfl _ _ hc130 (h_p0_a_1.at hs) (hs.rd (i := 0) rfl)) ?_; clear hf
            rintro _ w ⟨rfl, hs1⟩ a hf
            have hs : St [] W w [.row A125 xs127.length c126 2 1 (ints xs127), .row A123 1 1 2 1 (ints ([q115]))] := hs.ext hs1.below
            clear hs1
            refine wpO_nil ⟨Or.inl (by decide), ?_⟩
            refine mYp (i := 9) rfl (by kernel_rfl) (by kernel_rfl) hf rfl rfl rfl (fun _ => Y_extract rfl rfl rfl) ?_; clear hf; intro a hf
            refine mYp (i := 10) rfl (by kernel_rfl) (by kernel_rfl) hf rfl rfl rfl (fun _ => Y_extract rfl rfl rfl) ?_; clear hf; intro a hf
            refine mYp (i := 11) rfl (by kernel_rfl) (by kernel_rfl) hf rfl rfl rfl (fun _ => Y_assign rfl rfl) ?_; clear hf; intro a hf
            refine mYp (i := 12) rfl (by kernel_rfl) (by kernel_rfl) hf rfl rfl rfl (fun _ => Y_assign rfl rfl) ?_; clear hf; intro a hf
            refine mDone (by kernel_rfl) ?_
            clear hs0
            refine wpL_nil (then_normal ?_)
            exact ⟨r129.1, r129.2, Option.some.inj hj98, (FrD.pick (FrD.pick hf.none hf rfl) hf rfl), hs.sel [] (by decide)⟩
          · refine sBuildSlice (parts := [(0, .tmp 35)]) (vs := [.int .i64 q115]) (cells := [.int .i64 q115]) hf hs rfl rfl rfl rfl rfl el28 ti2 rfl rfl rfl rfl ?_; clear hf hs; intro a w A131 hs hA132 hf
            have hs : St [] W w [.row A131 1 1 2 1 (ints ([q115]))] := hs
            refine wpO_nil ⟨Or.inl (by decide), ?_⟩
            refine mRun (i := 2) rfl (by kernel_rfl) ?_
            obtain ⟨r133, hc134, hj98⟩ := bind_some hj98
            refine sCall hf rfl rfl rfl rfl (cap := []) rfl rfl en114 (spec_l01Own_ok F p1_cycle A_p1_cycle_1 p1_cycle.length c_p1_cycle_1 rfl _ _ hc134 (h_p1_cycle_1.at hs)) ?_; clear hf
            rintro _ w ⟨A135, n136, c137, rfl, hn138, hs1⟩ a hf
            have hs : St [] W w [.row A131 1 1 2 1 (ints ([q115])), .row A135 n136 c137 2 1 (ints r133)] := hs.join hs1
            clear hs1
            have hs0 : St [] W w [] := hs.sel [] (by decide)
            refine wpO_nil ⟨Or.inr (fun _ => hs0), ?_⟩
            refine mRun (i := 7) rfl (by kernel_rfl) ?_
            obtain ⟨xs141, ha142, hj98⟩ := bind_some hj98
            refine sAppendL (i := 1) (xs := r133) (ys := [q115]) (enc := ints) hf hs rfl rfl rfl rfl rfl rfl hn138 rfl rfl ha142 el28 ti2 rfl rfl rfl (hs.rd (i := 0) rfl) (Nat.succ_pos _) ints_len1 ints_append ints_one ?_; clear hf hs; intro a w A139 c140 hs hf
            have hs : St [] W w [.row A131 1 1 2 1 (ints ([q115])), .row A139 xs141.length c140 2 1 (ints xs141)] := hs
            refine wpO_nil ⟨Or.inl (by decide), ?_⟩
            refine mRun (i := 8) rfl (by kernel_rfl) ?_
            obtain ⟨r143, hc144, hj98⟩ := bind_some hj98
            refine sCall hf rfl rfl rfl rfl (cap := []) rfl rfl en167 (spec_l03Walk_ok F p0_a A_p0_a_1 p0_a.length c_p0_a_1 rfl xs141 A139 xs141.length c140 rfl _ _ hc144 (h_p0_a_1.at hs) (hs.rd (i := 1) rfl)) ?_; clear hf
            rintro _ w ⟨rfl, hs1⟩ a hf
            have hs : St [] W w [.row A131 1 1 2 1 (ints ([q115])), .row A139 xs141.length c140 2 1 (ints xs141)] := hs.ext hs1.below
            clear hs1
            refine wpO_nil ⟨Or.inl (by decide), ?_⟩
            refine mYp (i := 9) rfl (by kernel_rfl) (by kernel_rfl) hf rfl rfl rfl (fun _ => Y_extract rfl rfl rfl) ?_; clear hf; intro a hf
            refine mYp (i := 10) rfl (by kernel_rfl) (by kernel_rfl) hf rfl rfl rfl (fun _ => Y_extract rfl rfl rfl) ?_; clear hf; intro a hf
            refine mYp (i := 11) rfl (by kernel_rfl) (by kernel_rfl) hf rfl rfl rfl (fun _ => Y_assign rfl rfl) ?_; clear hf; intro a hf
            refine mYp (i := 12) rfl (by kernel_rfl) (by kernel_rfl) hf rfl rfl rfl (fun _ => Y_assign rfl rfl) ?_; clear hf; intro a hf
            refine mDone (by kernel_rfl) ?_
            clear hs0
            refine wpL_nil (then_normal ?_)
            exact ⟨r143.1, r143.2, Option.some.inj hj98, (FrD.pick (FrD.pick hf.none hf rfl) hf rfl), hs.sel [] (by decide)⟩
        · rintro a w ⟨x95, b96, hr_, hf, hs⟩
          subst hr_
          try dsimp only at hm
          obtain rfl := Option.some.inj hm
          refine wpL_ret (ret_tmp2 rfl hf rfl rfl ?_)
          exact ⟨_, rfl, rfl, hs⟩

set_option maxRecDepth 100000 in
theorem spec_l01Value_ok (F : Nat) (p0_a : Int) (r : Int × Int) (W : World) (hm : spec_l01Value F p0_a = some r) :
    Calls Try.prog 98 [.int .i64 p0_a].toArray W fun e w' => ∃ v, e = .returned v ∧ v = .tuple #[.int .i64 r.1, .int .i64 r.2] ∧ St [] W w' [] := by
  unfold spec_l01Value at hm
  refine Calls.enter (N := 8) Try.func98 rfl rfl rfl (fun a hf => ?_)
  have hs := St.start W
  obtain ⟨w, hw_⟩ : ∃ w, w = W := ⟨W, rfl⟩
  clear hw_ w
  refine wpL_seq ?_
  refine wpL_region ?_
  refine sY hf hs rfl rfl rfl (Y_assign rfl rfl) ?_; clear hf; intro a hf
  refine sY hf hs rfl rfl rfl (Y_assign rfl rfl) ?_; clear hf; intro a hf
  refine wpO_nil ?_
  refine wpL_seq ?_
  refine wpL_seq ?_
  refine wpL_region ?_
  refine sY hf hs rfl rfl rfl (Y_move rfl rfl) ?_; clear hf; intro a hf
  obtain ⟨r1, hc2, hm⟩ := bind_some hm
  refine sCall hf rfl rfl rfl rfl (cap := []) rfl rfl en168 (spec_IsValue_ok F p0_a _ _ hc2) ?_; clear hf
  rintro _ w ⟨rfl, hs1⟩ a hf
  have hs : St [] W w [] := hs.ext hs1.below
  clear hs1
  refine sY hf hs rfl rfl rfl (Y_not rfl rfl) ?_; clear hf; intro a hf
  refine wpO_nil ?_
  refine wpL_cond hf rfl (fun hb3 => ?_) (fun hb3 => ?_)
  · have hm := bif_t hm hb3
    refine wpL_seq ?_
    refine wpL_region ?_
    refine sY hf hs rfl rfl rfl (Y_assign rfl rfl) ?_; clear hf; intro a hf
    refine sY hf hs rfl rfl rfl (Y_assign rfl rfl) ?_; clear hf; intro a hf
    refine wpO_nil ?_
    obtain rfl := Option.some.inj hm
    refine wpL_ret (ret_tmp2 rfl hf rfl rfl ?_)
    exact ⟨_, rfl, rfl, hs⟩
  · have hm := bif_f hm hb3
    refine wpL_skip ?_
    refine wpL_seq ?_
    refine wpL_region ?_
    refine sY hf hs rfl rfl rfl (Y_move rfl rfl) ?_; clear hf; intro a hf
    refine sY hf hs rfl rfl rfl (Y_assign rfl rfl) ?_; clear hf; intro a hf
    refine sY hf hs rfl rfl rfl (Y_assign rfl rfl) ?_; clear hf; intro a hf
    refine wpO_nil ?_
    obtain rfl := Option.some.inj hm
    refine wpL_ret (ret_tmp2 rfl hf rfl rfl ?_)
    exact ⟨_, rfl, rfl, hs⟩

set_option maxRecDepth 100000 in
theorem spec_CycleWeight_ok (F : Nat) (p0_a : List (List Int)) (A_p0_a_1 : Option Addr) (n_p0_a_1 c_p0_a_1 : Nat) (hn_p0_a_1 : n_p0_a_1 = p0_a.length) (p1_cycle : List Int) (A_p1_cycle_1 : Option Addr) (n_p1_cycle_1 c_p1_cycle_1 : Nat) (hn_p1_cycle_1 : n_p1_cycle_1 = p1_cycle.length) (r : Int × Int) (W : World) (hm : spec_CycleWeight F p0_a p1_cycle = some r) (h_p0_a_1 : RdM W A_p0_a_1 p0_a) (h_p1_cycle_1 : Rd W A_p1_cycle_1 (ints p1_cycle)) (hcap_h_p1_cycle_1 : n_p1_cycle_1 ≤ c_p1_cycle_1) :
    Calls Try.prog 37 [.slice A_p0_a_1 n_p0_a_1 c_p0_a_1, .slice A_p1_cycle_1 n_p1_cycle_1 c_p1_cycle_1].toArray W fun e w' => ∃ v, e = .returned v ∧ v = .tuple #[.int .i64 r.1, .int .i64 r.2] ∧ St [] W w' [] := by
  subst hn_p0_a_1
  subst hn_p1_cycle_1
  unfold spec_CycleWeight at hm
  refine Calls.enter (N := 23) Try.func37 rfl rfl rfl (fun a hf => ?_)
  have hs := St.start W
  obtain ⟨w, hw_⟩ : ∃ w, w = W := ⟨W, rfl⟩
  clear hw_ w
  refine wpL_seq ?_
  refine wpL_region ?_
  refine sY hf hs rfl rfl rfl (Y_assign rfl rfl) ?_; clear hf; intro a hf
  refine sY hf hs rfl rfl rfl (Y_assign rfl rfl) ?_; clear hf; intro a hf
  refine wpO_nil ?_
  refine wpL_seq ?_
  refine wpL_seq ?_
  refine wpL_region ?_
  refine sY hf hs rfl rfl rfl (Y_move rfl rfl) ?_; clear hf; intro a hf
  obtain ⟨r1, hc2, hm⟩ := bind_some hm
  refine sCall hf rfl rfl rfl rfl (cap := []) rfl rfl en82 (spec_l02Square_ok F p0_a A_p0_a_1 p0_a.length c_p0_a_1 rfl _ _ hc2 (h_p0_a_1.at hs)) ?_; clear hf
  rintro _ w ⟨rfl, hs1⟩ a hf
  have hs : St [] W w [] := hs.ext hs1.below
  clear hs1
  refine sY hf hs rfl rfl rfl (Y_not rfl rfl) ?_; clear hf; intro a hf
  refine wpO_nil ?_
  refine wpL_cond hf rfl (fun hb3 => ?_) (fun hb3 => ?_)
  · have hm := bif_t hm hb3
    refine wpL_seq ?_
    refine wpL_region ?_
    refine sY hf hs rfl rfl rfl (Y_assign rfl rfl) ?_; clear hf; intro a hf
    refine sY hf hs rfl rfl rfl (Y_assign rfl rfl) ?_; clear hf; intro a hf
    refine wpO_nil ?_
    obtain rfl := Option.some.inj hm
    refine wpL_ret (ret_tmp2 rfl hf rfl rfl ?_)
    exact ⟨_, rfl, rfl, hs⟩
  · have hm := bif_f hm hb3
    refine wpL_skip ?_
    refine wpL_seq ?_
    refine wpL_region ?_
    refine sY hf hs rfl rfl rfl (Y_move rfl rfl) ?_; clear hf; intro a hf
    refine sY hf hs rfl rfl rfl (Y_move rfl rfl) ?_; clear hf; intro a hf
    obtain ⟨r4, hc5, hm⟩ := bind_some hm
    refine sCall hf rfl rfl rfl rfl (cap := []) rfl rfl en97 (spec_l03Cycle_ok F p0_a A_p0_a_1 p0_a.length c_p0_a_1 rfl p1_cycle A_p1_cycle_1 p1_cycle.length c_p1_cycle_1 rfl _ _ hc5 (h_p0_a_1.at hs) (h_p1_cycle_1.at hs) hcap_h_p1_cycle_1) ?_; clear hf
    rintro _ w ⟨rfl, hs1⟩ a hf
    have hs : St [] W w [] := hs.ext hs1.below
    clear hs1
    refine sY hf hs rfl rfl rfl (Y_move rfl rfl) ?_; clear hf; intro a hf
    refine sY hf hs rfl rfl rfl (Y_extract rfl rfl rfl) ?_; clear hf; intro a hf
    refine sY hf hs rfl rfl rfl (Y_extract rfl rfl rfl) ?_; clear hf; intro a hf
    refine sY hf hs rfl rfl rfl (Y_assign rfl rfl) ?_; clear hf; intro a hf
    refine sY hf hs rfl rfl rfl (Y_assign rfl rfl) ?_; clear hf; intro a hf
    refine wpO_nil ?_
    refine wpL_seq ?_
    refine wpL_seq ?_
    refine wpL_region ?_
    refine sY hf hs rfl rfl rfl (Y_move rfl rfl) ?_; clear hf; intro a hf
    refine sY hf hs rfl rfl rfl (Y_not rfl rfl) ?_; clear hf; intro a hf
    refine wpO_nil ?_
    refine wpL_cond hf rfl (fun hb6 => ?_) (fun hb6 => ?_)
    · have hm := bif_t hm hb6
      refine wpL_seq ?_
      refine wpL_region ?_
      refine sY hf hs rfl rfl rfl (Y_assign rfl rfl) ?_; clear hf; intro a hf
      refine sY hf hs rfl rfl rfl (Y_assign rfl rfl) ?_; clear hf; intro a hf
      refine wpO_nil ?_
      obtain rfl := Option.some.inj hm
      refine wpL_ret (ret_tmp2 rfl hf rfl rfl ?_)
      exact ⟨_, rfl, rfl, hs⟩
    · have hm := bif_f hm hb6
      refine wpL_skip ?_
      refine wpL_seq ?_
      refine wpL_region ?_
      refine sY hf hs rfl rfl rfl (Y_move rfl rfl) ?_; clear hf; intro a hf
      obtain ⟨r7, hc8, hm⟩ := bind_some hm
      refine sCall hf rfl rfl rfl rfl (cap := []) rfl rfl en98 (spec_l01Value_ok F r4.1 _ _ hc8) ?_; clear hf
      rintro _ w ⟨rfl, hs1⟩ a hf
      have hs : St [] W w [] := hs.ext hs1.below
      clear hs1
      refine sY hf hs rfl rfl rfl (Y_extract rfl rfl rfl) ?_; clear hf; intro a hf
      refine sY hf hs rfl rfl rfl (Y_extract rfl rfl rfl) ?_; clear hf; intro a hf
      refine sY hf hs rfl rfl rfl (Y_assign rfl rfl) ?_; clear hf; intro a hf
      refine sY hf hs rfl rfl rfl (Y_assign rfl rfl) ?_; clear hf; intro a hf
      refine wpO_nil ?_
      obtain rfl := Option.some.inj hm
      refine wpL_ret (ret_tmp2 rfl hf rfl rfl ?_)
      exact ⟨_, rfl, rfl, hs⟩

set_option maxRecDepth 100000 in
theorem laws_likeInts_ok (F : Nat) (p0_a : List Int) (A_p0_a_1 : Option Addr) (n_p0_a_1 c_p0_a_1 : Nat) (hn_p0_a_1 : n_p0_a_1 = p0_a.length) (p1_b : List Int) (A_p1_b_1 : Option Addr) (n_p1_b_1 c_p1_b_1 : Nat) (hn_p1_b_1 : n_p1_b_1 = p1_b.length) (r : Bool) (W : World) (hm : laws_likeInts F p0_a p1_b = some r) (h_p0_a_1 : Rd W A_p0_a_1 (ints p0_a)) (h_p1_b_1 : Rd W A_p1_b_1 (ints p1_b)) :
    Calls Try.prog 21 [.slice A_p0_a_1 n_p0_a_1 c_p0_a_1, .slice A_p1_b_1 n_p1_b_1 c_p1_b_1].toArray W fun e w' => ∃ v, e = .returned v ∧ v = .bool r ∧ St [] W w' [] := by
  subst hn_p0_a_1
  subst hn_p1_b_1
  unfold laws_likeInts at hm
  refine Calls.enter (N := 26) Try.func21 rfl rfl rfl (fun a hf => ?_)
  have hs := St.start W
  obtain ⟨w, hw_⟩ : ∃ w, w = W := ⟨W, rfl⟩
  clear hw_ w
  refine wpL_seq ?_
  refine wpL_region ?_
  refine sY hf hs rfl rfl rfl (Y_assign rfl rfl) ?_; clear hf; intro a hf
  refine wpO_nil ?_
  refine wpL_seq ?_
  refine wpL_seq ?_
  refine wpL_region ?_
  refine sY hf hs rfl rfl rfl (Y_move rfl rfl) ?_; clear hf; intro a hf
  refine sY hf hs rfl rfl rfl (Y_lenH rfl rfl el28 rfl) ?_; clear hf; intro a hf
  refine sY hf hs rfl rfl rfl (Y_move rfl rfl) ?_; clear hf; intro a hf
  refine sY hf hs rfl rfl rfl (Y_lenH rfl rfl el28 rfl) ?_; clear hf; intro a hf
  refine sY hf hs rfl rfl rfl (Y_neq rfl rfl rfl) ?_; clear hf; intro a hf
  refine wpO_nil ?_
  refine wpL_cond hf rfl (fun hb1 => ?_) (fun hb1 => ?_)
  · have hm := bif_t hm hb1
    refine wpL_seq ?_
    refine wpL_region ?_
    refine sY hf hs rfl rfl rfl (Y_assign rfl rfl) ?_; clear hf; intro a hf
    refine wpO_nil ?_
    obtain rfl := Option.some.inj hm
    refine wpL_ret (ret_tmp rfl hf rfl ?_)
    exact ⟨_, rfl, rfl, hs⟩
  · have hm := bif_f hm hb1
    refine wpL_skip ?_
    refine wpL_seq ?_
    refine wpL_seq ?_
    refine wpL_region ?_
    refine sY hf hs rfl rfl rfl (Y_assign rfl rfl) ?_; clear hf; intro a hf
    refine wpO_nil ?_
    obtain ⟨r22, hl23, hm⟩ := bind_some hm
    refine wpL_block (fun a w => Sum.inr () = r22 ∧ Fr a 26 [] ∧ St [] W w []) ?_ ?_
    · refine wpL_loop (fun n a w => ∃ x15 : Int, laws_likeInts_L1 F p0_a p1_b n x15 = some r22 ∧ Fr a 26 [(0, .slice A_p0_a_1 p0_a.length c_p0_a_1), (1, .slice A_p1_b_1 p1_b.length c_p1_b_1), (5, .int .i64 x15)] ∧ St [] W w []) F ?_ ?_ ?_
      · exact ⟨0, hl23, (FrD.pick (FrD.pick (FrD.pick hf.none hf rfl) hf rfl) hf rfl), hs⟩
      · rintro a w ⟨x15, h0_, -, -⟩; simp [laws_likeInts_L1] at h0_
      · rintro n25 a w ⟨x15, hm24, hf, hs⟩
        rw [laws_likeInts_L1] at hm24
        refine wpL_seq ?_
        refine wpL_seq ?_
        refine wpL_region ?_
        refine sY hf hs rfl rfl rfl (Y_move rfl rfl) ?_; clear hf; intro a hf
        refine sY hf hs rfl rfl rfl (Y_move rfl rfl) ?_; clear hf; intro a hf
        refine sY hf hs rfl rfl rfl (Y_lenH rfl rfl el28 rfl) ?_; clear hf; intro a hf
        refine sY hf hs rfl rfl rfl (Y_lss rfl rfl rfl) ?_; clear hf; intro a hf
        refine wpO_nil ?_
        refine wpL_cond hf rfl (fun hb26 => ?_) (fun hb26 => ?_)
        · have hm24 := bif_t hm24 hb26
          refine wpL_skip ?_
          refine wpL_seq ?_
          refine wpL_block0 ?_
          refine wpL_seq ?_
          refine wpL_draw (by kernel_rfl) (by kernel_rfl) hs ?_
          refine qY hf rfl rfl rfl (Y_move rfl rfl) ?_; clear hf; intro a hf
          refine qY hf rfl rfl rfl (Y_move rfl rfl) ?_; clear hf; intro a hf
          obtain ⟨q27, hi28, hm24⟩ := bind_some hm24
          obtain ⟨hi28a, hi28b, hi28q⟩ := idx_some hi28
          refine qY hf rfl rfl rfl (Y_index rfl rfl rfl el28 ti2 (Rd.isAt (h_p0_a_1.at hs) (at1 (ints_at hi28q))) hi28a hi28b) ?_; clear hf; intro a hf
          refine qY hf rfl rfl rfl (Y_load_rd rfl rfl (fun w hs => h_p0_a_1.at hs) (at1 (ints_at hi28q)) ag2) ?_; clear hf; intro a hf
          refine qY hf rfl rfl rfl (Y_move rfl rfl) ?_; clear hf; intro a hf
          refine qY hf rfl rfl rfl (Y_move rfl rfl) ?_; clear hf; intro a hf
          obtain ⟨q29, hi30, hm24⟩ := bind_some hm24
          obtain ⟨hi30a, hi30b, hi30q⟩ := idx_some hi30
          refine qY hf rfl rfl rfl (Y_index rfl rfl rfl el28 ti2 (Rd.isAt (h_p1_b_1.at hs) (at1 (ints_at hi30q))) hi30a hi30b) ?_; clear hf; intro a hf
          refine qY hf rfl rfl rfl (Y_load_rd rfl rfl (fun w hs => h_p1_b_1.at hs) (at1 (ints_at hi30q)) ag2) ?_; clear hf; intro a hf
          refine qY hf rfl rfl rfl (Y_neq rfl rfl rfl) ?_; clear hf; intro a hf
          refine qNil ?_; clear hs; intro w hs
          refine wpL_cond hf rfl (fun hb31 => ?_) (fun hb31 => ?_)
          · have hm24 := bif_t hm24 hb31
            refine wpL_seq ?_
            refine wpL_region ?_
            refine sY hf hs rfl rfl rfl (Y_assign rfl rfl) ?_; clear hf; intro a hf
            refine wpO_nil ?_
            obtain rfl := Option.some.inj hm24
            try dsimp only at hm
            obtain rfl := Option.some.inj hm
            refine wpL_ret (Qb_ret (Ql_ret (Qb_ret (ret_tmp rfl hf rfl ?_))))
            exact ⟨_, rfl, rfl, hs⟩
          · have hm24 := bif_f hm24 hb31
            refine wpL_skip ?_
            refine wpL_nil (Qb_normal ?_)
            refine wpL_region ?_
            refine sY hf hs rfl rfl rfl (Y_move rfl rfl) ?_; clear hf; intro a hf
            refine sY hf hs rfl rfl rfl (Y_add rfl rfl rfl) ?_; clear hf; intro a hf
            refine sY hf hs rfl rfl rfl (Y_assign rfl rfl) ?_; clear hf; intro a hf
            refine wpO_nil ?_
            refine wpL_nil (Ql_normal ?_)
            exact ⟨(IntKind.i64.wrap (x15 + 1)), hm24, (FrD.pick (FrD.pick (FrD.pick hf.none hf rfl) hf rfl) hf rfl), hs⟩
        · have hm24 := bif_f hm24 hb26
          refine wpL_exit (Ql_exit (Qb_exit ?_))
          exact ⟨Option.some.inj hm24, hf.none, hs⟩
    · rintro a w ⟨hr_, hf, hs⟩
      subst hr_
      try dsimp only at hm
      refine wpL_seq ?_
      refine wpL_region ?_
      refine sY hf hs rfl rfl rfl (Y_assign rfl rfl) ?_; clear hf; intro a hf
      refine wpO_nil ?_
      obtain rfl := Option.some.inj hm
      refine wpL_ret (ret_tmp rfl hf rfl ?_)
      exact ⟨_, rfl, rfl, hs⟩

set_option maxRecDepth 100000 in
theorem impl_IsCycle_ok (F : Nat) (p0_a : List (List Int)) (A_p0_a_1 : Option Addr) (n_p0_a_1 c_p0_a_1 : Nat) (hn_p0_a_1 : n_p0_a_1 = p0_a.length) (p1_cycle : List Int) (A_p1_cycle_1 : Option Addr) (n_p1_cycle_1 c_p1_cycle_1 : Nat) (hn_p1_cycle_1 : n_p1_cycle_1 = p1_cycle.length) (r : Bool) (W : World) (hm : impl_IsCycle F p0_a p1_cycle = some r) (h_p0_a_1 : RdM W A_p0_a_1 p0_a) (h_p1_cycle_1 : Rd W A_p1_cycle_1 (ints p1_cycle)) (hcap_h_p1_cycle_1 : n_p1_cycle_1 ≤ c_p1_cycle_1) :
    Calls Try.prog 39 [.slice A_p0_a_1 n_p0_a_1 c_p0_a_1, .slice A_p1_cycle_1 n_p1_cycle_1 c_p1_cycle_1].toArray W fun e w' => ∃ v, e = .returned v ∧ v = .bool r ∧ St [] W w' [] := by
  subst hn_p0_a_1
  subst hn_p1_cycle_1
  unfold impl_IsCycle at hm
  refine Calls.enter (N := 17) Try.func39 rfl rfl rfl (fun a hf => ?_)
  have hs := St.start W
  obtain ⟨w, hw_⟩ : ∃ w, w = W := ⟨W, rfl⟩
  clear hw_ w
  refine wpL_seq ?_
  refine wpL_region ?_
  refine sY hf hs rfl rfl rfl (Y_assign rfl rfl) ?_; clear hf; intro a hf
  refine wpO_nil ?_
  refine wpL_seq ?_
  refine wpL_seq ?_
  refine wpL_region ?_
  refine sY hf hs rfl rfl rfl (Y_move rfl rfl) ?_; clear hf; intro a hf
  obtain ⟨r1, hc2, hm⟩ := bind_some hm
  refine sCall hf rfl rfl rfl rfl (cap := []) rfl rfl en79 (impl_isSquare_ok F p0_a A_p0_a_1 p0_a.length c_p0_a_1 rfl _ _ hc2 (h_p0_a_1.at hs)) ?_; clear hf
  rintro _ w ⟨rfl, hs1⟩ a hf
  have hs : St [] W w [] := hs.ext hs1.below
  clear hs1
  refine sY hf hs rfl rfl rfl (Y_not rfl rfl) ?_; clear hf; intro a hf
  refine wpO_nil ?_
  refine wpL_cond hf rfl (fun hb3 => ?_) (fun hb3 => ?_)
  · have hm := bif_t hm hb3
    refine wpL_seq ?_
    refine wpL_region ?_
    refine sY hf hs rfl rfl rfl (Y_assign rfl rfl) ?_; clear hf; intro a hf
    refine wpO_nil ?_
    obtain rfl := Option.some.inj hm
    refine wpL_ret (ret_tmp rfl hf rfl ?_)
    exact ⟨_, rfl, rfl, hs⟩
  · have hm := bif_f hm hb3
    refine wpL_skip ?_
    refine wpL_seq ?_
    refine wpL_region ?_
    refine sY hf hs rfl rfl rfl (Y_move rfl rfl) ?_; clear hf; intro a hf
    refine sY hf hs rfl rfl rfl (Y_move rfl rfl) ?_; clear hf; intro a hf
    obtain ⟨r4, hc5, hm⟩ := bind_some hm
    refine sCall hf rfl rfl rfl rfl (cap := []) rfl rfl en95 (impl_cycleWeight_ok F p0_a A_p0_a_1 p0_a.length c_p0_a_1 rfl p1_cycle A_p1_cycle_1 p1_cycle.length c_p1_cycle_1 rfl _ _ hc5 (h_p0_a_1.at hs) (h_p1_cycle_1.at hs) hcap_h_p1_cycle_1) ?_; clear hf
    rintro _ w ⟨rfl, hs1⟩ a hf
    have hs : St [] W w [] := hs.ext hs1.below
    clear hs1
    refine sY hf hs rfl rfl rfl (Y_move rfl rfl) ?_; clear hf; intro a hf
    refine sY hf hs rfl rfl rfl (Y_extract rfl rfl rfl) ?_; clear hf; intro a hf
    refine sY hf hs rfl rfl rfl (Y_extract rfl rfl rfl) ?_; clear hf; intro a hf
    refine sY hf hs rfl rfl rfl (Y_assign rfl rfl) ?_; clear hf; intro a hf
    refine sY hf hs rfl rfl rfl (Y_assign rfl rfl) ?_; clear hf; intro a hf
    refine wpO_nil ?_
    refine wpL_seq ?_
    refine wpL_region ?_
    refine sY hf hs rfl rfl rfl (Y_move rfl rfl) ?_; clear hf; intro a hf
    refine sY hf hs rfl rfl rfl (Y_assign rfl rfl) ?_; clear hf; intro a hf
    refine wpO_nil ?_
    obtain rfl := Option.some.inj hm
    refine wpL_ret (ret_tmp rfl hf rfl ?_)
    exact ⟨_, rfl, rfl, hs⟩

set_option maxRecDepth 100000 in
theorem spec_IsCycle_ok (F : Nat) (p0_a : List (List Int)) (A_p0_a_1 : Option Addr) (n_p0_a_1 c_p0_a_1 : Nat) (hn_p0_a_1 : n_p0_a_1 = p0_a.length) (p1_cycle : List Int) (A_p1_cycle_1 : Option Addr) (n_p1_cycle_1 c_p1_cycle_1 : Nat) (hn_p1_cycle_1 : n_p1_cycle_1 = p1_cycle.length) (r : Bool) (W : World) (hm : spec_IsCycle F p0_a p1_cycle = some r) (h_p0_a_1 : RdM W A_p0_a_1 p0_a) (h_p1_cycle_1 : Rd W A_p1_cycle_1 (ints p1_cycle)) (hcap_h_p1_cycle_1 : n_p1_cycle_1 ≤ c_p1_cycle_1) :
    Calls Try.prog 40 [.slice A_p0_a_1 n_p0_a_1 c_p0_a_1, .slice A_p1_cycle_1 n_p1_cycle_1 c_p1_cycle_1].toArray W fun e w' => ∃ v, e = .returned v ∧ v = .bool r ∧ St [] W w' [] := by
  subst hn_p0_a_1
  subst hn_p1_cycle_1
  unfold spec_IsCycle at hm
  refine Calls.enter (N := 17) Try.func40 rfl rfl rfl (fun a hf => ?_)
  have hs := St.start W
  obtain ⟨w, hw_⟩ : ∃ w, w = W := ⟨W, rfl⟩
  clear hw_ w
  refine wpL_seq ?_
  refine wpL_region ?_
  refine sY hf hs rfl rfl rfl (Y_assign rfl rfl) ?_; clear hf; intro a hf
  refine wpO_nil ?_
  refine wpL_seq ?_
  refine wpL_seq ?_
  refine wpL_region ?_
  refine sY hf hs rfl rfl rfl (Y_move rfl rfl) ?_; clear hf; intro a hf
  obtain ⟨r1, hc2, hm⟩ := bind_some hm
  refine sCall hf rfl rfl rfl rfl (cap := []) rfl rfl en82 (spec_l02Square_ok F p0_a A_p0_a_1 p0_a.length c_p0_a_1 rfl _ _ hc2 (h_p0_a_1.at hs)) ?_; clear hf
  rintro _ w ⟨rfl, hs1⟩ a hf
  have hs : St [] W w [] := hs.ext hs1.below
  clear hs1
  refine sY hf hs rfl rfl rfl (Y_not rfl rfl) ?_; clear hf; intro a hf
  refine wpO_nil ?_
  refine wpL_cond hf rfl (fun hb3 => ?_) (fun hb3 => ?_)
  · have hm := bif_t hm hb3
    refine wpL_seq ?_
    refine wpL_region ?_
    refine sY hf hs rfl rfl rfl (Y_assign rfl rfl) ?_; clear hf; intro a hf
    refine wpO_nil ?_
    obtain rfl := Option.some.inj hm
    refine wpL_ret (ret_tmp rfl hf rfl ?_)
    exact ⟨_, rfl, rfl, hs⟩
  · have hm := bif_f hm hb3
    refine wpL_skip ?_
    refine wpL_seq ?_
    refine wpL_region ?_
    refine sY hf hs rfl rfl rfl (Y_move rfl rfl) ?_; clear hf; intro a hf
    refine sY hf hs rfl rfl rfl (Y_move rfl rfl) ?_; clear hf; intro a hf
    obtain ⟨r4, hc5, hm⟩ := bind_some hm
    refine sCall hf rfl rfl rfl rfl (cap := []) rfl rfl en97 (spec_l03Cycle_ok F p0_a A_p0_a_1 p0_a.length c_p0_a_1 rfl p1_cycle A_p1_cycle_1 p1_cycle.length c_p1_cycle_1 rfl _ _ hc5 (h_p0_a_1.at hs) (h_p1_cycle_1.at hs) hcap_h_p1_cycle_1) ?_; clear hf
    rintro _ w ⟨rfl, hs1⟩ a hf
    have hs : St [] W w [] := hs.ext hs1.below
    clear hs1
    refine sY hf hs rfl rfl rfl (Y_move rfl rfl) ?_; clear hf; intro a hf
    refine sY hf hs rfl rfl rfl (Y_extract rfl rfl rfl) ?_; clear hf; intro a hf
    refine sY hf hs rfl rfl rfl (Y_extract rfl rfl rfl) ?_; clear hf; intro a hf
    refine sY hf hs rfl rfl rfl (Y_assign rfl rfl) ?_; clear hf; intro a hf
    refine sY hf hs rfl rfl rfl (Y_assign rfl rfl) ?_; clear hf; intro a hf
    refine wpO_nil ?_
    refine wpL_seq ?_
    refine wpL_region ?_
    refine sY hf hs rfl rfl rfl (Y_move rfl rfl) ?_; clear hf; intro a hf
    refine sY hf hs rfl rfl rfl (Y_assign rfl rfl) ?_; clear hf; intro a hf
    refine wpO_nil ?_
    obtain rfl := Option.some.inj hm
    refine wpL_ret (ret_tmp rfl hf rfl ?_)
    exact ⟨_, rfl, rfl, hs⟩

set_option maxHeartbeats 2000000 in
set_option maxRecDepth 100000 in
theorem laws_FnPositiveCycles_ok (F : Nat) (p0 : List Int) (A_p0_1 : Option Addr) (n_p0_1 c_p0_1 : Nat) (hn_p0_1 : n_p0_1 = p0.length) (r : Bool) (W : World) (hm : laws_FnPositiveCycles F p0 = some r) (h_p0_1 : Rd W A_p0_1 (bytes p0)) :
    Calls Try.prog 5 [.slice A_p0_1 n_p0_1 c_p0_1].toArray W fun e w' => ∃ v, e = .returned v ∧ v = .bool r ∧ St [] W w' [] := by
  subst hn_p0_1
  unfold laws_FnPositiveCycles at hm
  refine Calls.enter (N := 131) Try.func5 rfl rfl rfl (fun a hf => ?_)
  have hs := St.start W
  obtain ⟨w, hw_⟩ : ∃ w, w = W := ⟨W, rfl⟩
  clear hw_ w
  refine wpL_seq ?_
  refine wpL_region ?_
  refine sY hf hs rfl rfl rfl (Y_assign rfl rfl) ?_; clear hf; intro a hf
  refine wpO_nil ?_
  refine wpL_seq ?_
  refine wpL_seq ?_
  refine wpL_region ?_
  refine sY hf hs rfl rfl rfl (Y_move rfl rfl) ?_; clear hf; intro a hf
  obtain ⟨r1, hc2, hm⟩ := bind_some hm
  refine sCall hf rfl rfl rfl rfl (cap := []) rfl rfl en9 (laws_big_ok F p0 A_p0_1 p0.length c_p0_1 rfl _ _ hc2 (h_p0_1.at hs)) ?_; clear hf
  rintro _ w ⟨rfl, hs1⟩ a hf
  have hs : St [] W w [] := hs.ext hs1.below
  clear hs1
  refine wpO_nil ?_
  refine wpL_cond hf rfl (fun hb3 => ?_) (fun hb3 => ?_)
  · have hm := bif_t hm hb3
    refine wpL_seq ?_
    refine wpL_region ?_
    refine sY hf hs rfl rfl rfl (Y_assign rfl rfl) ?_; clear hf; intro a hf
    refine wpO_nil ?_
    obtain rfl := Option.some.inj hm
    refine wpL_ret (ret_tmp rfl hf rfl ?_)
    exact ⟨_, rfl, rfl, hs⟩
  · have hm := bif_f hm hb3
    refine wpL_skip ?_
    refine wpL_seq ?_
    refine wpL_region ?_
    refine sY hf hs rfl rfl rfl (Y_move rfl rfl) ?_; clear hf; intro a hf
    obtain ⟨r4, hc5, hm⟩ := bind_some hm
    refine sCall hf rfl rfl rfl rfl (cap := []) rfl rfl en34 (spec_DrawPositiveCycle_ok F p0 A_p0_1 p0.length c_p0_1 rfl _ _ hc5 (h_p0_1.at hs)) ?_; clear hf
    rintro _ w ⟨A6, n7, c8, vs10, rfl, hn9, hs1⟩ a hf
    have hs : St [] W w [.mat A6 n7 c8 28 2 vs10 r4] := hs.join hs1
    clear hs1
    refine sY hf hs rfl rfl rfl (Y_assign rfl rfl) ?_; clear hf; intro a hf
    refine wpO_nil ?_
    refine wpL_seq ?_
    refine wpL_region ?_
    refine sY hf hs rfl rfl rfl (Y_move rfl rfl) ?_; clear hf; intro a hf
    obtain ⟨r11, hc12, hm⟩ := bind_some hm
    refine sCall hf rfl rfl rfl rfl (cap := []) rfl rfl en29 (impl_PositiveCycle_ok F r4 A6 n7 c8 hn9 _ _ hc12 (hs.rdM (i := 0) rfl)) ?_; clear hf
    rintro _ w ⟨A13, n14, c15, rfl, hn16, hs1⟩ a hf
    have hs : St [] W w [.mat A6 n7 c8 28 2 vs10 r4, .row A13 n14 c15 2 1 (ints r11.1)] := hs.join hs1
    clear hs1
    refine sY hf hs rfl rfl rfl (Y_move rfl rfl) ?_; clear hf; intro a hf
    refine sY hf hs rfl rfl rfl (Y_extract rfl rfl rfl) ?_; clear hf; intro a hf
    refine sY hf hs rfl rfl rfl (Y_extract rfl rfl rfl) ?_; clear hf; intro a hf
    refine sY hf hs rfl rfl rfl (Y_assign rfl rfl) ?_; clear hf; intro a hf
    refine sY hf hs rfl rfl rfl (Y_assign rfl rfl) ?_; clear hf; intro a hf
    refine wpO_nil ?_
    refine wpL_seq ?_
    refine wpL_region ?_
    refine sY hf hs rfl rfl rfl (Y_move rfl rfl) ?_; clear hf; intro a hf
    obtain ⟨r17, hc18, hm⟩ := bind_some hm
    refine sCall hf rfl rfl rfl rfl (cap := []) rfl rfl en30 (spec_PositiveCycle_ok F r4 A6 n7 c8 hn9 _ _ hc18 (hs.rdM (i := 0) rfl)) ?_; clear hf
    rintro _ w ⟨A19, n20, c21, rfl, hn22, hs1⟩ a hf
    have hs : St [] W w [.mat A6 n7 c8 28 2 vs10 r4, .row A13 n14 c15 2 1 (ints r11.1), .row A19 n20 c21 2 1 (ints r17.1)] := hs.join hs1
    clear hs1
    refine sY hf hs rfl rfl rfl (Y_move rfl rfl) ?_; clear hf; intro a hf
    refine sY hf hs rfl rfl rfl (Y_extract rfl rfl rfl) ?_; clear hf; intro a hf
    refine sY hf hs rfl rfl rfl (Y_extract rfl rfl rfl) ?_; clear hf; intro a hf
    refine sY hf hs rfl rfl rfl (Y_assign rfl rfl) ?_; clear hf; intro a hf
    refine sY hf hs rfl rfl rfl (Y_assign rfl rfl) ?_; clear hf; intro a hf
    refine wpO_nil ?_
    refine wpL_seq ?_
    refine wpL_region ?_
    refine sY hf hs rfl rfl rfl (Y_move rfl rfl) ?_; clear hf; intro a hf
    obtain ⟨r23, hc24, hm⟩ := bind_some hm
    refine sCall hf rfl rfl rfl rfl (cap := []) rfl rfl en35 (spec_DrawCycleWeight_ok F p0 A_p0_1 p0.length c_p0_1 rfl _ _ hc24 (h_p0_1.at hs)) ?_; clear hf
    rintro _ w ⟨A25, n26, c27, vs29, A30, n31, c32, rfl, hn28, hn33, hs1⟩ a hf
    have hs : St [] W w [.mat A6 n7 c8 28 2 vs10 r4, .row A13 n14 c15 2 1 (ints r11.1), .row A19 n20 c21 2 1 (ints r17.1), .mat A25 n26 c27 28 2 vs29 r23.1, .row A30 n31 c32 2 1 (ints r23.2)] := hs.join hs1
    clear hs1
    refine sY hf hs rfl rfl rfl (Y_move rfl rfl) ?_; clear hf; intro a hf
    refine sY hf hs rfl rfl rfl (Y_extract rfl rfl rfl) ?_; clear hf; intro a hf
    refine sY hf hs rfl rfl rfl (Y_extract rfl rfl rfl) ?_; clear hf; intro a hf
    refine sY hf hs rfl rfl rfl (Y_assign rfl rfl) ?_; clear hf; intro a hf
    refine sY hf hs rfl rfl rfl (Y_assign rfl rfl) ?_; clear hf; intro a hf
    refine wpO_nil ?_
    refine wpL_seq ?_
    refine wpL_region ?_
    refine sY hf hs rfl rfl rfl (Y_move rfl rfl) ?_; clear hf; intro a hf
    refine sY hf hs rfl rfl rfl (Y_move rfl rfl) ?_; clear hf; intro a hf
    obtain ⟨r34, hc35, hm⟩ := bind_some hm
    refine sCall hf rfl rfl rfl rfl (cap := []) rfl rfl en36 (impl_CycleWeight_ok F r23.1 A25 n26 c27 hn28 r23.2 A30 n31 c32 hn33 _ _ hc35 (hs.rdM (i := 3) rfl) (hs.rd (i := 4) rfl) (hs.capR (i := 4) rfl)) ?_; clear hf
    rintro _ w ⟨rfl, hs1⟩ a hf
    have hs : St [] W w [.mat A6 n7 c8 28 2 vs10 r4, .row A13 n14 c15 2 1 (ints r11.1), .row A19 n20 c21 2 1 (ints r17.1), .mat A25 n26 c27 28 2 vs29 r23.1, .row A30 n31 c32 2 1 (ints r23.2)] := hs.ext hs1.below
    clear hs1
    refine sY hf hs rfl rfl rfl (Y_move rfl rfl) ?_; clear hf; intro a hf
    refine sY hf hs rfl rfl rfl (Y_extract rfl rfl rfl) ?_; clear hf; intro a hf
    refine sY hf hs rfl rfl rfl (Y_extract rfl rfl rfl) ?_; clear hf; intro a hf
    refine sY hf hs rfl rfl rfl (Y_assign rfl rfl) ?_; clear hf; intro a hf
    refine sY hf hs rfl rfl rfl (Y_assign rfl rfl) ?_; clear hf; intro a hf
    refine wpO_nil ?_
    refine wpL_seq ?_
    refine wpL_region ?_
    refine sY hf hs rfl rfl rfl (Y_move rfl rfl) ?_; clear hf; intro a hf
    refine sY hf hs rfl rfl rfl (Y_move rfl rfl) ?_; clear hf; intro a hf
    obtain ⟨r36, hc37, hm⟩ := bind_some hm
    refine sCall hf rfl rfl rfl rfl (cap := []) rfl rfl en37 (spec_CycleWeight_ok F r23.1 A25 n26 c27 hn28 r23.2 A30 n31 c32 hn33 _ _ hc37 (hs.rdM (i := 3) rfl) (hs.rd (i := 4) rfl) (hs.capR (i := 4) rfl)) ?_; clear hf
    rintro _ w ⟨rfl, hs1⟩ a hf
    have hs : St [] W w [.mat A6 n7 c8 28 2 vs10 r4, .row A13 n14 c15 2 1 (ints r11.1), .row A19 n20 c21 2 1 (ints r17.1), .mat A25 n26 c27 28 2 vs29 r23.1, .row A30 n31 c32 2 1 (ints r23.2)] := hs.ext hs1.below
    clear hs1
    refine sY hf hs rfl rfl rfl (Y_move rfl rfl) ?_; clear hf; intro a hf
    refine sY hf hs rfl rfl rfl (Y_extract rfl rfl rfl) ?_; clear hf; intro a hf
    refine sY hf hs rfl rfl rfl (Y_extract rfl rfl rfl) ?_; clear hf; intro a hf
    refine sY hf hs rfl rfl rfl (Y_assign rfl rfl) ?_; clear hf; intro a hf
    refine sY hf hs rfl rfl rfl (Y_assign rfl rfl) ?_; clear hf; intro a hf
    refine wpO_nil ?_
    refine wpL_seq ?_
    refine wpL_region ?_
    refine sY hf hs rfl rfl rfl (Y_move rfl rfl) ?_; clear hf; intro a hf
    obtain ⟨r38, hc39, hm⟩ := bind_some hm
    refine sCall hf rfl rfl rfl rfl (cap := []) rfl rfl en38 (spec_DrawIsCycle_ok F p0 A_p0_1 p0.length c_p0_1 rfl _ _ hc39 (h_p0_1.at hs)) ?_; clear hf
    rintro _ w ⟨A40, n41, c42, vs44, A45, n46, c47, rfl, hn43, hn48, hs1⟩ a hf
    have hs : St [] W w [.mat A6 n7 c8 28 2 vs10 r4, .row A13 n14 c15 2 1 (ints r11.1), .row A19 n20 c21 2 1 (ints r17.1), .mat A25 n26 c27 28 2 vs29 r23.1, .row A30 n31 c32 2 1 (ints r23.2), .mat A40 n41 c42 28 2 vs44 r38.1, .row A45 n46 c47 2 1 (ints r38.2)] := hs.join hs1
    clear hs1
    refine sY hf hs rfl rfl rfl (Y_move rfl rfl) ?_; clear hf; intro a hf
    refine sY hf hs rfl rfl rfl (Y_extract rfl rfl rfl) ?_; clear hf; intro a hf
    refine sY hf hs rfl rfl rfl (Y_extract rfl rfl rfl) ?_; clear hf; intro a hf
    refine sY hf hs rfl rfl rfl (Y_assign rfl rfl) ?_; clear hf; intro a hf
    refine sY hf hs rfl rfl rfl (Y_assign rfl rfl) ?_; clear hf; intro a hf
    refine wpO_nil ?_
    refine wpL_seq ?_
    refine wpL_seq ?_
    obtain ⟨r60, hj61, hm⟩ := bind_some hm
    refine wpL_cut (fun a w => ∃ b59 : Bool, b59 = r60 ∧ Fr a 131 [(3, .slice A6 n7 c8), (4, .slice A13 n14 c15), (5, .int .i64 r11.2), (8, .slice A25 n26 c27), (9, .slice A30 n31 c32), (10, .int .i64 r34.1), (11, .int .i64 r34.2), (83, .bool b59)] ∧ St [] W w [.mat A6 n7 c8 28 2 vs10 r4, .row A13 n14 c15 2 1 (ints r11.1), .mat A25 n26 c27 28 2 vs29 r23.1, .row A30 n31 c32 2 1 (ints r23.2)]) ?_ ?_
    · refine wpL_region ?_
      refine sY hf hs rfl rfl rfl (Y_move rfl rfl) ?_; clear hf; intro a hf
      refine sY hf hs rfl rfl rfl (Y_move rfl rfl) ?_; clear hf; intro a hf
      refine sY hf hs rfl rfl rfl (Y_neq rfl rfl rfl) ?_; clear hf; intro a hf
      refine sY hf hs rfl rfl rfl (Y_move rfl rfl) ?_; clear hf; intro a hf
      refine bsplit (r11.2 != r17.2) (fun hb62 => ?_) (fun hb62 => ?_)
      · have hj61 := bif_t hj61 hb62
        refine sNo hf rfl rfl rfl (congrArg (fun b => some (Value.bool b)) hb62) rfl rfl rfl ?_; clear hf; intro a hf
        refine sNo hf rfl rfl rfl (congrArg (fun b => some (Value.bool b)) hb62) rfl rfl rfl ?_; clear hf; intro a hf
        refine sNo hf rfl rfl rfl (congrArg (fun b => some (Value.bool b)) hb62) rfl rfl rfl ?_; clear hf; intro a hf
        refine sNo hf rfl rfl rfl (congrArg (fun b => some (Value.bool b)) hb62) rfl rfl rfl ?_; clear hf; intro a hf
        refine sY hf hs rfl rfl rfl (Y_pickT rfl (congrArg (fun b => some (Value.bool b)) hb62) rfl) ?_; clear hf; intro a hf
        refine sY hf hs rfl rfl rfl (Y_move rfl rfl) ?_; clear hf; intro a hf
        refine sNo hf rfl rfl rfl rfl rfl rfl rfl ?_; clear hf; intro a hf
        refine sNo hf rfl rfl rfl rfl rfl rfl rfl ?_; clear hf; intro a hf
        refine sNo hf rfl rfl rfl rfl rfl rfl rfl ?_; clear hf; intro a hf
        refine sY hf hs rfl rfl rfl (Y_pickT rfl rfl rfl) ?_; clear hf; intro a hf
        refine sY hf hs rfl rfl rfl (Y_move rfl rfl) ?_; clear hf; intro a hf
        refine sNo hf rfl rfl rfl rfl rfl rfl rfl ?_; clear hf; intro a hf
        refine sNo hf rfl rfl rfl rfl rfl rfl rfl ?_; clear hf; intro a hf
        refine sNo hf rfl rfl rfl rfl rfl rfl rfl ?_; clear hf; intro a hf
        refine sY hf hs rfl rfl rfl (Y_pickT rfl rfl rfl) ?_; clear hf; intro a hf
        refine sY hf hs rfl rfl rfl (Y_move rfl rfl) ?_; clear hf; intro a hf
        refine sNo hf rfl rfl rfl rfl rfl rfl rfl ?_; clear hf; intro a hf
        refine sNo hf rfl rfl rfl rfl rfl rfl rfl ?_; clear hf; intro a hf
        refine sNo hf rfl rfl rfl rfl rfl rfl rfl ?_; clear hf; intro a hf
        refine sNo hf rfl rfl rfl rfl rfl rfl rfl ?_; clear hf; intro a hf
        refine sNo hf rfl rfl rfl rfl rfl rfl rfl ?_; clear hf; intro a hf
        refine sNo hf rfl rfl rfl rfl rfl rfl rfl ?_; clear hf; intro a hf
        refine sNo hf rfl rfl rfl rfl rfl rfl rfl ?_; clear hf; intro a hf
        refine sY hf hs rfl rfl rfl (Y_pickT rfl rfl rfl) ?_; clear hf; intro a hf
        refine wpO_nil ?_
        refine wpL_nil (then_normal ?_)
        exact ⟨true, Option.some.inj hj61, (FrD.pick (FrD.pick (FrD.pick (FrD.pick (FrD.pick (FrD.pick (FrD.pick (FrD.pick hf.none hf rfl) hf rfl) hf rfl) hf rfl) hf rfl) hf rfl) hf rfl) hf rfl), hs.sel [0, 1, 3, 4] (by decide)⟩
      · have hj61 := bif_f hj61 hb62
        refine sYg hf hs rfl rfl rfl (congrArg (fun b => some (Value.bool b)) hb62) rfl rfl rfl (Y_move rfl rfl) ?_; clear hf; intro a hf
        refine sYg hf hs rfl rfl rfl (congrArg (fun b => some (Value.bool b)) hb62) rfl rfl rfl (Y_move rfl rfl) ?_; clear hf; intro a hf
        obtain ⟨r63, hc64, hj61⟩ := bind_some hj61
        refine sCallg hf rfl rfl rfl (congrArg (fun b => some (Value.bool b)) hb62) rfl rfl rfl rfl (cap := []) rfl rfl en21 (laws_likeInts_ok F r11.1 A13 n14 c15 hn16 r17.1 A19 n20 c21 hn22 _ _ hc64 (hs.rd (i := 1) rfl) (hs.rd (i := 2) rfl)) ?_; clear hf
        rintro _ w ⟨rfl, hs1⟩ a hf
        have hs : St [] W w [.mat A6 n7 c8 28 2 vs10 r4, .row A13 n14 c15 2 1 (ints r11.1), .row A19 n20 c21 2 1 (ints r17.1), .mat A25 n26 c27 28 2 vs29 r23.1, .row A30 n31 c32 2 1 (ints r23.2), .mat A40 n41 c42 28 2 vs44 r38.1, .row A45 n46 c47 2 1 (ints r38.2)] := hs.ext hs1.below
        clear hs1
        refine sYg hf hs rfl rfl rfl (congrArg (fun b => some (Value.bool b)) hb62) rfl rfl rfl (Y_not rfl rfl) ?_; clear hf; intro a hf
        refine sY hf hs rfl rfl rfl (Y_pickF rfl (congrArg (fun b => some (Value.bool b)) hb62) rfl) ?_; clear hf; intro a hf
        refine sY hf hs rfl rfl rfl (Y_move rfl rfl) ?_; clear hf; intro a hf
        refine bsplit (!r63) (fun hb65 => ?_) (fun hb65 => ?_)
        · have hj61 := bif_t hj61 hb65
          refine sNo hf rfl rfl rfl (congrArg (fun b => some (Value.bool b)) hb65) rfl rfl rfl ?_; clear hf; intro a hf
          refine sNo hf rfl rfl rfl (congrArg (fun b => some (Value.bool b)) hb65) rfl rfl rfl ?_; clear hf; intro a hf
          refine sNo hf rfl rfl rfl (congrArg (fun b => some (Value.bool b)) hb65) rfl rfl rfl ?_; clear hf; intro a hf
          refine sY hf hs rfl rfl rfl (Y_pickT rfl (congrArg (fun b => some (Value.bool b)) hb65) rfl) ?_; clear hf; intro a hf
          refine sY hf hs rfl rfl rfl (Y_move rfl rfl) ?_; clear hf; intro a hf
          refine sNo hf rfl rfl rfl rfl rfl rfl rfl ?_; clear hf; intro a hf
          refine sNo hf rfl rfl rfl rfl rfl rfl rfl ?_; clear hf; intro a hf
          refine sNo hf rfl rfl rfl rfl rfl rfl rfl ?_; clear hf; intro a hf
          refine sY hf hs rfl rfl rfl (Y_pickT rfl rfl rfl) ?_; clear hf; intro a hf
          refine sY hf hs rfl rfl rfl (Y_move rfl rfl) ?_; clear hf; intro a hf
          refine sNo hf rfl rfl rfl rfl rfl rfl rfl ?_; clear hf; intro a hf
          refine sNo hf rfl rfl rfl rfl rfl rfl rfl ?_; clear hf; intro a hf
          refine sNo hf rfl rfl rfl rfl rfl rfl rfl ?_; clear hf; intro a hf
          refine sNo hf rfl rfl rfl rfl rfl rfl rfl ?_; clear hf; intro a hf
          refine sNo hf rfl rfl rfl rfl rfl rfl rfl ?_; clear hf; intro a hf
          refine sNo hf rfl rfl rfl rfl rfl rfl rfl ?_; clear hf; intro a hf
          refine sNo hf rfl rfl rfl rfl rfl rfl rfl ?_; clear hf; intro a hf
          refine sY hf hs rfl rfl rfl (Y_pickT rfl rfl rfl) ?_; clear hf; intro a hf
          refine wpO_nil ?_
          refine wpL_nil (then_normal ?_)
          exact ⟨true, Option.some.inj hj61, (FrD.pick (FrD.pick (FrD.pick (FrD.pick (FrD.pick (FrD.pick (FrD.pick (FrD.pick hf.none hf rfl) hf rfl) hf rfl) hf rfl) hf rfl) hf rfl) hf rfl) hf rfl), hs.sel [0, 1, 3, 4] (by decide)⟩
        · have hj61 := bif_f hj61 hb65
          refine sYg hf hs rfl rfl rfl (congrArg (fun b => some (Value.bool b)) hb65) rfl rfl rfl (Y_move rfl rfl) ?_; clear hf; intro a hf
          refine sYg hf hs rfl rfl rfl (congrArg (fun b => some (Value.bool b)) hb65) rfl rfl rfl (Y_move rfl rfl) ?_; clear hf; intro a hf
          refine sYg hf hs rfl rfl rfl (congrArg (fun b => some (Value.bool b)) hb65) rfl rfl rfl (Y_neq rfl rfl rfl) ?_; clear hf; intro a hf
          refine sY hf hs rfl rfl rfl (Y_pickF rfl (congrArg (fun b => some (Value.bool b)) hb65) rfl) ?_; clear hf; intro a hf
          refine sY hf hs rfl rfl rfl (Y_move rfl rfl) ?_; clear hf; intro a hf
          refine bsplit (r34.2 != r36.2) (fun hb66 => ?_) (fun hb66 => ?_)
          · have hj61 := bif_t hj61 hb66
            refine sNo hf rfl rfl rfl (congrArg (fun b => some (Value.bool b)) hb66) rfl rfl rfl ?_; clear hf; intro a hf
            refine sNo hf rfl rfl rfl (congrArg (fun b => some (Value.bool b)) hb66) rfl rfl rfl ?_; clear hf; intro a hf
            refine sNo hf rfl rfl rfl (congrArg (fun b => some (Value.bool b)) hb66) rfl rfl rfl ?_; clear hf; intro a hf
            refine sY hf hs rfl rfl rfl (Y_pickT rfl (congrArg (fun b => some (Value.bool b)) hb66) rfl) ?_; clear hf; intro a hf
            refine sY hf hs rfl rfl rfl (Y_move rfl rfl) ?_; clear hf; intro a hf
            refine sNo hf rfl rfl rfl rfl rfl rfl rfl ?_; clear hf; intro a hf
            refine sNo hf rfl rfl rfl rfl rfl rfl rfl ?_; clear hf; intro a hf
            refine sNo hf rfl rfl rfl rfl rfl rfl rfl ?_; clear hf; intro a hf
            refine sNo hf rfl rfl rfl rfl rfl rfl rfl ?_; clear hf; intro a hf
            refine sNo hf rfl rfl rfl rfl rfl rfl rfl ?_; clear hf; intro a hf
            refine sNo hf rfl rfl rfl rfl rfl rfl rfl ?_; clear hf; intro a hf
            refine sNo hf rfl rfl rfl rfl rfl rfl rfl ?_; clear hf; intro a hf
            refine sY hf hs rfl rfl rfl (Y_pickT rfl rfl rfl) ?_; clear hf; intro a hf
            refine wpO_nil ?_
            refine wpL_nil (then_normal ?_)
            exact ⟨true, Option.some.inj hj61, (FrD.pick (FrD.pick (FrD.pick (FrD.pick (FrD.pick (FrD.pick (FrD.pick (FrD.pick hf.none hf rfl) hf rfl) hf rfl) hf rfl) hf rfl) hf rfl) hf rfl) hf rfl), hs.sel [0, 1, 3, 4] (by decide)⟩
          · have hj61 := bif_f hj61 hb66
            refine sYg hf hs rfl rfl rfl (congrArg (fun b => some (Value.bool b)) hb66) rfl rfl rfl (Y_move rfl rfl) ?_; clear hf; intro a hf
            refine sYg hf hs rfl rfl rfl (congrArg (fun b => some (Value.bool b)) hb66) rfl rfl rfl (Y_move rfl rfl) ?_; clear hf; intro a hf
            refine sYg hf hs rfl rfl rfl (congrArg (fun b => some (Value.bool b)) hb66) rfl rfl rfl (Y_neq rfl rfl rfl) ?_; clear hf; intro a hf
            refine sY hf hs rfl rfl rfl (Y_pickF rfl (congrArg (fun b => some (Value.bool b)) hb66) rfl) ?_; clear hf; intro a hf
            refine sY hf hs rfl rfl rfl (Y_move rfl rfl) ?_; clear hf; intro a hf
            refine bsplit (r34.1 != r36.1) (fun hb67 => ?_) (fun hb67 => ?_)
            · have hj61 := bif_t hj61 hb67
              refine sNo hf rfl rfl rfl (congrArg (fun b => some (Value.bool b)) hb67) rfl rfl rfl ?_; clear hf; intro a hf
              refine sNo hf rfl rfl rfl (congrArg (fun b => some (Value.bool b)) hb67) rfl rfl rfl ?_; clear hf; intro a hf
              refine sNo hf rfl rfl rfl (congrArg (fun b => some (Value.bool b)) hb67) rfl rfl rfl ?_; clear hf; intro a hf
              refine sNo hf rfl rfl rfl (congrArg (fun b => some (Value.bool b)) hb67) rfl rfl rfl ?_; clear hf; intro a hf
              refine sNo hf rfl rfl rfl (congrArg (fun b => some (Value.bool b)) hb67) rfl rfl rfl ?_; clear hf; intro a hf
              refine sNo hf rfl rfl rfl (congrArg (fun b => some (Value.bool b)) hb67) rfl rfl rfl ?_; clear hf; intro a hf
              refine sNo hf rfl rfl rfl (congrArg (fun b => some (Value.bool b)) hb67) rfl rfl rfl ?_; clear hf; intro a hf
              refine sY hf hs rfl rfl rfl (Y_pickT rfl (congrArg (fun b => some (Value.bool b)) hb67) rfl) ?_; clear hf; intro a hf
              refine wpO_nil ?_
              refine wpL_nil (then_normal ?_)
              exact ⟨true, Option.some.inj hj61, (FrD.pick (FrD.pick (FrD.pick (FrD.pick (FrD.pick (FrD.pick (FrD.pick (FrD.pick hf.none hf rfl) hf rfl) hf rfl) hf rfl) hf rfl) hf rfl) hf rfl) hf rfl), hs.sel [0, 1, 3, 4] (by decide)⟩
            · have hj61 := bif_f hj61 hb67
              refine sYg hf hs rfl rfl rfl (congrArg (fun b => some (Value.bool b)) hb67) rfl rfl rfl (Y_move rfl rfl) ?_; clear hf; intro a hf
              refine sYg hf hs rfl rfl rfl (congrArg (fun b => some (Value.bool b)) hb67) rfl rfl rfl (Y_move rfl rfl) ?_; clear hf; intro a hf
              obtain ⟨r68, hc69, hj61⟩ := bind_some hj61
              refine sCallg hf rfl rfl rfl (congrArg (fun b => some (Value.bool b)) hb67) rfl rfl rfl rfl (cap := []) rfl rfl en39 (impl_IsCycle_ok F r38.1 A40 n41 c42 hn43 r38.2 A45 n46 c47 hn48 _ _ hc69 (hs.rdM (i := 5) rfl) (hs.rd (i := 6) rfl) (hs.capR (i := 6) rfl)) ?_; clear hf
              rintro _ w ⟨rfl, hs1⟩ a hf
              have hs : St [] W w [.mat A6 n7 c8 28 2 vs10 r4, .row A13 n14 c15 2 1 (ints r11.1), .row A19 n20 c21 2 1 (ints r17.1), .mat A25 n26 c27 28 2 vs29 r23.1, .row A30 n31 c32 2 1 (ints r23.2), .mat A40 n41 c42 28 2 vs44 r38.1, .row A45 n46 c47 2 1 (ints r38.2)] := hs.ext hs1.below
              clear hs1
              refine sYg hf hs rfl rfl rfl (congrArg (fun b => some (Value.bool b)) hb67) rfl rfl rfl (Y_move rfl rfl) ?_; clear hf; intro a hf
              refine sYg hf hs rfl rfl rfl (congrArg (fun b => some (Value.bool b)) hb67) rfl rfl rfl (Y_move rfl rfl) ?_; clear hf; intro a hf
              obtain ⟨r70, hc71, hj61⟩ := bind_some hj61
              refine sCallg hf rfl rfl rfl (congrArg (fun b => some (Value.bool b)) hb67) rfl rfl rfl rfl (cap := []) rfl rfl en40 (spec_IsCycle_ok F r38.1 A40 n41 c42 hn43 r38.2 A45 n46 c47 hn48 _ _ hc71 (hs.rdM (i := 5) rfl) (hs.rd (i := 6) rfl) (hs.capR (i := 6) rfl)) ?_; clear hf
              rintro _ w ⟨rfl, hs1⟩ a hf
              have hs : St [] W w [.mat A6 n7 c8 28 2 vs10 r4, .row A13 n14 c15 2 1 (ints r11.1), .row A19 n20 c21 2 1 (ints r17.1), .mat A25 n26 c27 28 2 vs29 r23.1, .row A30 n31 c32 2 1 (ints r23.2), .mat A40 n41 c42 28 2 vs44 r38.1, .row A45 n46 c47 2 1 (ints r38.2)] := hs.ext hs1.below
              clear hs1
              refine sYg hf hs rfl rfl rfl (congrArg (fun b => some (Value.bool b)) hb67) rfl rfl rfl (Y_neqB rfl rfl rfl Try.underlying4) ?_; clear hf; intro a hf
              refine sY hf hs rfl rfl rfl (Y_pickF rfl (congrArg (fun b => some (Value.bool b)) hb67) rfl) ?_; clear hf; intro a hf
              refine wpO_nil ?_
              refine wpL_nil (then_normal ?_)
              exact ⟨(r68 != r70), Option.some.inj hj61, (FrD.pick (FrD.pick (FrD.pick (FrD.pick (FrD.pick (FrD.pick (FrD.pick (FrD.pick hf.none hf rfl) hf rfl) hf rfl) hf rfl) hf rfl) hf rfl) hf rfl) hf rfl), hs.sel [0, 1, 3, 4] (by decide)⟩
    · rintro a w ⟨b59, hr_, hf, hs⟩
      subst hr_
      try dsimp only at hm
      refine wpL_cond hf rfl (fun hb72 => ?_) (fun hb72 => ?_)
      · have hm := bif_t hm hb72
        refine wpL_seq ?_
        refine wpL_region ?_
        refine sY hf hs rfl rfl rfl (Y_assign rfl rfl) ?_; clear hf; intro a hf
        refine wpO_nil ?_
        obtain rfl := Option.some.inj hm
        refine wpL_ret (ret_tmp rfl hf rfl ?_)
        exact ⟨_, rfl, rfl, hs.sel [] (by decide)⟩
      · have hm := bif_f hm hb72
        refine wpL_skip ?_
        refine wpL_seq ?_
        refine wpL_seq ?_
        refine wpL_region ?_
        refine sY hf hs rfl rfl rfl (Y_move rfl rfl) ?_; clear hf; intro a hf
        refine sY hf hs rfl rfl rfl (Y_eql rfl rfl rfl) ?_; clear hf; intro a hf
        refine wpO_nil ?_
        obtain ⟨r214, hj215, hm⟩ := bind_some hm
        refine wpL_cut (fun a w => Sum.inr () = r214 ∧ Fr a 131 [(3, .slice A6 n7 c8), (4, .slice A13 n14 c15), (5, .int .i64 r11.2)] ∧ St [] W w [.mat A6 n7 c8 28 2 vs10 r4, .row A13 n14 c15 2 1 (ints r11.1)]) ?_ ?_
        · refine wpL_cond hf rfl (fun hb216 => ?_) (fun hb216 => ?_)
          · have hj215 := bif_t hj215 hb216
            refine wpL_seq ?_
            obtain ⟨r281, hj282, hj215⟩ := bind_some hj215
            refine wpL_cut (fun a w => ∃ x279 : Int, ∃ x280 : Int, (x279, x280) = r281 ∧ Fr a 131 [(3, .slice A6 n7 c8), (4, .slice A13 n14 c15), (5, .int .i64 r11.2), (8, .slice A25 n26 c27), (9, .slice A30 n31 c32), (10, .int .i64 r34.1), (16, .int .i64 x279), (17, .int .i64 x280)] ∧ St [] W w [.mat A6 n7 c8 28 2 vs10 r4, .row A13 n14 c15 2 1 (ints r11.1), .mat A25 n26 c27 28 2 vs29 r23.1, .row A30 n31 c32 2 1 (ints r23.2)]) ?_ ?_
            · refine wpL_drawM [.mat A6 n7 c8 28 2 vs10 r4, .row A13 n14 c15 2 1 (ints r11.1), .mat A25 n26 c27 28 2 vs29 r23.1, .row A30 n31 c32 2 1 (ints r23.2)] [9, 10] (by kernel_rfl) hs ?_; clear hs; intro w hs
              have hs0 : St [] W w [.mat A6 n7 c8 28 2 vs10 r4, .row A13 n14 c15 2 1 (ints r11.1), .mat A25 n26 c27 28 2 vs29 r23.1, .row A30 n31 c32 2 1 (ints r23.2)] := hs
              refine mYp (i := 0) rfl (by kernel_rfl) (by kernel_rfl) hf rfl rfl rfl (fun _ => Y_move rfl rfl) ?_; clear hf; intro a hf
              refine mYp (i := 2) rfl (by kernel_rfl) (by kernel_rfl) hf rfl rfl rfl (fun _ => Y_move rfl rfl) ?_; clear hf; intro a hf
              obtain ⟨xs302, hk301, hj282⟩ := bind_some hj282
              refine mY (i := 3) [[4], [4, 9]] rfl (by kernel_rfl) (by kernel_rfl) hf hs0 rfl rfl rfl (Y_sliceL rfl rfl rfl (cutFrom_some hk301).1 (leN hn33 (cutFrom_some hk301).2.1) el28 ti2) ?_; clear hf; intro a hf
              refine mYp (i := 5) rfl (by kernel_rfl) (by kernel_rfl) hf rfl rfl rfl (fun _ => Y_move rfl rfl) ?_; clear hf; intro a hf
              obtain ⟨q303, hi304, hj282⟩ := bind_some hj282
              obtain ⟨hi304a, hi304b, hi304q⟩ := idx_some hi304
              refine mYp (i := 6) rfl (by kernel_rfl) (by kernel_rfl) hf rfl rfl rfl (fun _ => Y_index rfl rfl rfl el28 ti2 (Rd.isAt (hs.rd (i := 3) rfl) (at1 (ints_at hi304q))) hi304a (ltn hn33 hi304b)) ?_; clear hf; intro a hf
              refine mY (i := 7) [[8], [8, 9]] rfl (by kernel_rfl) (by kernel_rfl) hf hs0 rfl rfl rfl (Y_load_rd rfl rfl (fun w hs => hs.rd (i := 3) rfl) (at1 (ints_at hi304q)) ag2) ?_; clear hf; intro a hf
              refine mRun2 (i := 1) (j := 8) rfl rfl (by kernel_rfl) ?_ ?_
              · refine sEmpty hf hs rfl rfl rfl rfl el28 ti2 ?_; clear hf hs; intro a w A305 hs hf
                have hs : St [] W w [.mat A6 n7 c8 28 2 vs10 r4, .row A13 n14 c15 2 1 (ints r11.1), .mat A25 n26 c27 28 2 vs29 r23.1, .row A30 n31 c32 2 1 (ints r23.2), .row A305 0 0 2 1 (ints ([] : List Int))] := hs
                have hs0 : St [] W w [.mat A6 n7 c8 28 2 vs10 r4, .row A13 n14 c15 2 1 (ints r11.1), .mat A25 n26 c27 28 2 vs29 r23.1, .row A30 n31 c32 2 1 (ints r23.2)] := hs.sel [0, 1, 2, 3] (by decide)
                refine wpO_nil ⟨Or.inr (fun _ => hs0), ?_⟩
                refine mRun2 (i := 4) (j := 8) rfl rfl (by kernel_rfl) ?_ ?_
                · obtain ⟨xs309, ha310, hj282⟩ := bind_some hj282
                  refine sAppendG (i := 4) (xs := ([] : List Int)) (ys := xs302) (enc := ints) hf hs rfl rfl rfl rfl rfl rfl rfl (cut_len hn33 hk301) rfl ha310 el28 ti2 rfl rfl rfl (Rd.cutInts (hs.rd (i := 3) rfl) hn33 (hs.capR (i := 3) rfl) hk301) ints_len1 ints_append ints_one ?_; clear hf hs; intro a w A307 c308 hs hf
                  have hs : St [] W w [.mat A6 n7 c8 28 2 vs10 r4, .row A13 n14 c15 2 1 (ints r11.1), .mat A25 n26 c27 28 2 vs29 r23.1, .row A30 n31 c32 2 1 (ints r23.2), .row A307 xs309.length c308 2 1 (ints xs309)] := hs
                  have hs0 : St [] W w [.mat A6 n7 c8 28 2 vs10 r4, .row A13 n14 c15 2 1 (ints r11.1), .mat A25 n26 c27 28 2 vs29 r23.1, .row A30 n31 c32 2 1 (ints r23.2)] := hs.sel [0, 1, 2, 3] (by decide)
                  refine wpO_nil ⟨Or.inr (fun _ => hs0), ?_⟩
                  refine mRun (i := 8) rfl (by kernel_rfl) ?_
                  refine sBuildSlice (parts := [(0, .tmp 94)]) (vs := [.int .i64 q303]) (cells := [.int .i64 q303]) hf hs rfl rfl rfl rfl rfl el28 ti2 rfl rfl rfl rfl ?_; clear hf hs; intro a w A311 hs hA312 hf
                  have hs : St [] W w [.mat A6 n7 c8 28 2 vs10 r4, .row A13 n14 c15 2 1 (ints r11.1), .mat A25 n26 c27 28 2 vs29 r23.1, .row A30 n31 c32 2 1 (ints r23.2), .row A307 xs309.length c308 2 1 (ints xs309), .row A311 1 1 2 1 (ints ([q303]))] := hs
                  have hs0 : St [] W w [.mat A6 n7 c8 28 2 vs10 r4, .row A13 n14 c15 2 1 (ints r11.1), .mat A25 n26 c27 28 2 vs29 r23.1, .row A30 n31 c32 2 1 (ints r23.2)] := hs.sel [0, 1, 2, 3] (by decide)
                  refine wpO_nil ⟨Or.inr (fun _ => hs0), ?_⟩
                  refine mRun (i := 9) rfl (by kernel_rfl) ?_
                  obtain ⟨xs315, ha316, hj282⟩ := bind_some hj282
                  refine sAppendL (i := 4) (xs := xs309) (ys := [q303]) (enc := ints) hf hs rfl rfl rfl rfl rfl rfl rfl rfl rfl ha316 el28 ti2 rfl rfl rfl (hs.rd (i := 5) rfl) (Nat.succ_pos _) ints_len1 ints_append ints_one ?_; clear hf hs; intro a w A313 c314 hs hf
                  have hs : St [] W w [.mat A6 n7 c8 28 2 vs10 r4, .row A13 n14 c15 2 1 (ints r11.1), .mat A25 n26 c27 28 2 vs29 r23.1, .row A30 n31 c32 2 1 (ints r23.2), .row A313 xs315.length c314 2 1 (ints xs315), .row A311 1 1 2 1 (ints ([q303]))] := hs
                  refine wpO_nil ⟨Or.inl (by decide), ?_⟩
                  refine mRun (i := 10) rfl (by kernel_rfl) ?_
                  obtain ⟨r317, hc318, hj282⟩ := bind_some hj282
                  refine sCall hf rfl rfl rfl rfl (cap := []) rfl rfl en36 (impl_CycleWeight_ok F r23.1 A25 n26 c27 hn28 xs315 A313 xs315.length c314 rfl _ _ hc318 (hs.rdM (i := 2) rfl) (hs.rd (i := 4) rfl) (hs.capR (i := 4) rfl)) ?_; clear hf
                  rintro _ w ⟨rfl, hs1⟩ a hf
                  have hs : St [] W w [.mat A6 n7 c8 28 2 vs10 r4, .row A13 n14 c15 2 1 (ints r11.1), .mat A25 n26 c27 28 2 vs29 r23.1, .row A30 n31 c32 2 1 (ints r23.2), .row A313 xs315.length c314 2 1 (ints xs315), .row A311 1 1 2 1 (ints ([q303]))] := hs.ext hs1.below
                  clear hs1
                  refine wpO_nil ⟨Or.inl (by decide), ?_⟩
                  refine mYp (i := 11) rfl (by kernel_rfl) (by kernel_rfl) hf rfl rfl rfl (fun _ => Y_move rfl rfl) ?_; clear hf; intro a hf
                  refine mYp (i := 12) rfl (by kernel_rfl) (by kernel_rfl) hf rfl rfl rfl (fun _ => Y_extract rfl rfl rfl) ?_; clear hf; intro a hf
                  refine mYp (i := 13) rfl (by kernel_rfl) (by kernel_rfl) hf rfl rfl rfl (fun _ => Y_extract rfl rfl rfl) ?_; clear hf; intro a hf
                  refine mYp (i := 14) rfl (by kernel_rfl) (by kernel_rfl) hf rfl rfl rfl (fun _ => Y_assign rfl rfl) ?_; clear hf; intro a hf
                  refine mYp (i := 15) rfl (by kernel_rfl) (by kernel_rfl) hf rfl rfl rfl (fun _ => Y_assign rfl rfl) ?_; clear hf; intro a hf
                  refine mDone (by kernel_rfl) ?_
                  clear hs0
                  refine wpL_nil (then_normal ?_)
                  exact ⟨r317.1, r317.2, Option.some.inj hj282, (FrD.pick (FrD.pick (FrD.pick (FrD.pick (FrD.pick (FrD.pick (FrD.pick (FrD.pick hf.none hf rfl) hf rfl) hf rfl) hf rfl) hf rfl) hf rfl) hf rfl) hf rfl), hs.sel [0, 1, 2, 3] (by decide)⟩
                · refine sBuildSlice (parts := [(0, .tmp 94)]) (vs := [.int .i64 q303]) (cells := [.int .i64 q303]) hf hs rfl rfl rfl rfl rfl el28 ti2 rfl rfl rfl rfl ?_; clear hf hs; intro a w A319 hs hA320 hf
                  have hs : St [] W w [.mat A6 n7 c8 28 2 vs10 r4, .row A13 n14 c15 2 1 (ints r11.1), .mat A25 n26 c27 28 2 vs29 r23.1, .row A30 n31 c32 2 1 (ints r23.2), .row A305 0 0 2 1 (ints ([] : List Int)), .row A319 1 1 2 1 (ints ([q303]))] := hs
                  have hs0 : St [] W w [.mat A6 n7 c8 28 2 vs10 r4, .row A13 n14 c15 2 1 (ints r11.1), .mat A25 n26 c27 28 2 vs29 r23.1, .row A30 n31 c32 2 1 (ints r23.2)] := hs.sel [0, 1, 2, 3] (by decide)
                  refine wpO_nil ⟨Or.inr (fun _ => hs0), ?_⟩
                  refine mRun (i := 4) rfl (by kernel_rfl) ?_
                  obtain ⟨xs323, ha324, hj282⟩ := bind_some hj282
                  refine sAppendG (i := 4) (xs := ([] : List Int)) (ys := xs302) (enc := ints) hf hs rfl rfl rfl rfl rfl rfl rfl (cut_len hn33 hk301) rfl ha324 el28 ti2 rfl rfl rfl (Rd.cutInts (hs.rd (i := 3) rfl) hn33 (hs.capR (i := 3) rfl) hk301) ints_len1 ints_append ints_one ?_; clear hf hs; intro a w A321 c322 hs hf
                  have hs : St [] W w [.mat A6 n7 c8 28 2 vs10 r4, .row A13 n14 c15 2 1 (ints r11.1), .mat A25 n26 c27 28 2 vs29 r23.1, .row A30 n31 c32 2 1 (ints r23.2), .row A321 xs323.length c322 2 1 (ints xs323), .row A319 1 1 2 1 (ints ([q303]))] := hs
                  have hs0 : St [] W w [.mat A6 n7 c8 28 2 vs10 r4, .row A13 n14 c15 2 1 (ints r11.1), .mat A25 n26 c27 28 2 vs29 r23.1, .row A30 n31 c32 2 1 (ints r23.2)] := hs.sel [0, 1, 2, 3] (by decide)
                  refine wpO_nil ⟨Or.inr (fun _ => hs0), ?_⟩
                  refine mRun (i := 9) rfl (by kernel_rfl) ?_
                  obtain ⟨xs327, ha328, hj282⟩ := bind_some hj282
                  refine sAppendL (i := 4) (xs := xs323) (ys := [q303]) (enc := ints) hf hs rfl rfl rfl rfl rfl rfl rfl rfl rfl ha328 el28 ti2 rfl rfl rfl (hs.rd (i := 5) rfl) (Nat.succ_pos _) ints_len1 ints_append ints_one ?_; clear hf hs; intro a w A325 c326 hs hf
                  have hs : St [] W w [.mat A6 n7 c8 28 2 vs10 r4, .row A13 n14 c15 2 1 (ints r11.1), .mat A25 n26 c27 28 2 vs29 r23.1, .row A30 n31 c32 2 1 (ints r23.2), .row A325 xs327.length c326 2 1 (ints xs327), .row A319 1 1 2 1 (ints ([q303]))] := hs
                  refine wpO_nil ⟨Or.inl (by decide), ?_⟩
                  refine mRun (i := 10) rfl (by kernel_rfl) ?_
                  obtain ⟨r329, hc330, hj282⟩ := bind_some hj282
                  refine sCall hf rfl rfl rfl rfl (cap := []) rfl rfl en36 (impl_CycleWeight_ok F r23.1 A25 n26 c27 hn28 xs327 A325 xs327.length c326 rfl _ _ hc330 (hs.rdM (i := 2) rfl) (hs.rd (i := 4) rfl) (hs.capR (i := 4) rfl)) ?_; clear hf
                  rintro _ w ⟨rfl, hs1⟩ a hf
                  have hs : St [] W w [.mat A6 n7 c8 28 2 vs10 r4, .row A13 n14 c15 2 1 (ints r11.1), .mat A25 n26 c27 28 2 vs29 r23.1, .row A30 n31 c32 2 1 (ints r23.2), .row A325 xs327.length c326 2 1 (ints xs327), .row A319 1 1 2 1 (ints ([q303]))] := hs.ext hs1.below
                  clear hs1
                  refine wpO_nil ⟨Or.inl (by decide), ?_⟩
                  refine mYp (i := 11) rfl (by kernel_rfl) (by kernel_rfl) hf rfl rfl rfl (fun _ => Y_move rfl rfl) ?_; clear hf; intro a hf
                  refine mYp (i := 12) rfl (by kernel_rfl) (by kernel_rfl) hf rfl rfl rfl (fun _ => Y_extract rfl rfl rfl) ?_; clear hf; intro a hf
                  refine mYp (i := 13) rfl (by kernel_rfl) (by kernel_rfl) hf rfl rfl rfl (fun _ => Y_extract rfl rfl rfl) ?_; clear hf; intro a hf
                  refine mYp (i := 14) rfl (by kernel_rfl) (by kernel_rfl) hf rfl rfl rfl (fun _ => Y_assign rfl rfl) ?_; clear hf; intro a hf
                  refine mYp (i := 15) rfl (by kernel_rfl) (by kernel_rfl) hf rfl rfl rfl (fun _ => Y_assign rfl rfl) ?_; clear hf; intro a hf
                  refine mDone (by kernel_rfl) ?_
                  clear hs0
                  refine wpL_nil (then_normal ?_)
                  exact ⟨r329.1, r329.2, Option.some.inj hj282, (FrD.pick (FrD.pick (FrD.pick (FrD.pick (FrD.pick (FrD.pick (FrD.pick (FrD.pick hf.none hf rfl) hf rfl) hf rfl) hf rfl) hf rfl) hf rfl) hf rfl) hf rfl), hs.sel [0, 1, 2, 3] (by decide)⟩
              · refine sBuildSlice (parts := [(0, .tmp 94)]) (vs := [.int .i64 q303]) (cells := [.int .i64 q303]) hf hs rfl rfl rfl rfl rfl el28 ti2 rfl rfl rfl rfl ?_; clear hf hs; intro a w A331 hs hA332 hf
                have hs : St [] W w [.mat A6 n7 c8 28 2 vs10 r4, .row A13 n14 c15 2 1 (ints r11.1), .mat A25 n26 c27 28 2 vs29 r23.1, .row A30 n31 c32 2 1 (ints r23.2), .row A331 1 1 2 1 (ints ([q303]))] := hs
                have hs0 : St [] W w [.mat A6 n7 c8 28 2 vs10 r4, .row A13 n14 c15 2 1 (ints r11.1), .mat A25 n26 c27 28 2 vs29 r23.1, .row A30 n31 c32 2 1 (ints r23.2)] := hs.sel [0, 1, 2, 3] (by decide)
                refine wpO_nil ⟨Or.inr (fun _ => hs0), ?_⟩
                refine mRun (i := 1) rfl (by kernel_rfl) ?_
                refine sEmpty hf hs rfl rfl rfl rfl el28 ti2 ?_; clear hf hs; intro a w A333 hs hf
                have hs : St [] W w [.mat A6 n7 c8 28 2 vs10 r4, .row A13 n14 c15 2 1 (ints r11.1), .mat A25 n26 c27 28 2 vs29 r23.1, .row A30 n31 c32 2 1 (ints r23.2), .row A331 1 1 2 1 (ints ([q303])), .row A333 0 0 2 1 (ints ([] : List Int))] := hs
                have hs0 : St [] W w [.mat A6 n7 c8 28 2 vs10 r4, .row A13 n14 c15 2 1 (ints r11.1), .mat A25 n26 c27 28 2 vs29 r23.1, .row A30 n31 c32 2 1 (ints r23.2)] := hs.sel [0, 1, 2, 3] (by decide)
                refine wpO_nil ⟨Or.inr (fun _ => hs0), ?_⟩
                refine mRun (i := 4) rfl (by kernel_rfl) ?_
                obtain ⟨xs337, ha338, hj282⟩ := bind_some hj282
                refine sAppendG (i := 5) (xs := ([] : List Int)) (ys := xs302) (enc := ints) hf hs rfl rfl rfl rfl rfl rfl rfl (cut_len hn33 hk301) rfl ha338 el28 ti2 rfl rfl rfl (Rd.cutInts (hs.rd (i := 3) rfl) hn33 (hs.capR (i := 3) rfl) hk301) ints_len1 ints_append ints_one ?_; clear hf hs; intro a w A335 c336 hs hf
                have hs : St [] W w [.mat A6 n7 c8 28 2 vs10 r4, .row A13 n14 c15 2 1 (ints r11.1), .mat A25 n26 c27 28 2 vs29 r23.1, .row A30 n31 c32 2 1 (ints r23.2), .row A331 1 1 2 1 (ints ([q303])), .row A335 xs337.length c336 2 1 (ints xs337)] := hs
                have hs0 : St [] W w [.mat A6 n7 c8 28 2 vs10 r4, .row A13 n14 c15 2 1 (ints r11.1), .mat A25 n26 c27 28 2 vs29 r23.1, .row A30 n31 c32 2 1 (ints r23.2)] := hs.sel [0, 1, 2, 3] (by decide)
                refine wpO_nil ⟨Or.inr (fun _ => hs0), ?_⟩
                refine mRun (i := 9) rfl (by kernel_rfl) ?_
                obtain ⟨xs341, ha342, hj282⟩ := bind_some hj282
                refine sAppendL (i := 5) (xs := xs337) (ys := [q303]) (enc := ints) hf hs rfl rfl rfl rfl rfl rfl rfl rfl rfl ha342 el28 ti2 rfl rfl rfl (hs.rd (i := 4) rfl) (Nat.succ_pos _) ints_len1 ints_append ints_one ?_; clear hf hs; intro a w A339 c340 hs hf
                have hs : St [] W w [.mat A6 n7 c8 28 2 vs10 r4, .row A13 n14 c15 2 1 (ints r11.1), .mat A25 n26 c27 28 2 vs29 r23.1, .row A30 n31 c32 2 1 (ints r23.2), .row A331 1 1 2 1 (ints ([q303])), .row A339 xs341.length c340 2 1 (ints xs341)] := hs
                refine wpO_nil ⟨Or.inl (by decide), ?_⟩
                refine mRun (i := 10) rfl (by kernel_rfl) ?_
                obtain ⟨r343, hc344, hj282⟩ := bind_some hj282
                refine sCall hf rfl rfl rfl rfl (cap := []) rfl rfl en36 (impl_CycleWeight_ok F r23.1 A25 n26 c27 hn28 xs341 A339 xs341.length c340 rfl _ _ hc344 (hs.rdM (i := 2) rfl) (hs.rd (i := 5) rfl) (hs.capR (i := 5) rfl)) ?_; clear hf
                rintro _ w ⟨rfl, hs1⟩ a hf
                have hs : St [] W w [.mat A6 n7 c8 28 2 vs10 r4, .row A13 n14 c15 2 1 (ints r11.1), .mat A25 n26 c27 28 2 vs29 r23.1, .row A30 n31 c32 2 1 (ints r23.2), .row A331 1 1 2 1 (ints ([q303])), .row A339 xs341.length c340 2 1 (ints xs341)] := hs.ext hs1.below
                clear hs1
                refine wpO_nil ⟨Or.inl (by decide), ?_⟩
                refine mYp (i := 11) rfl (by kernel_rfl) (by kernel_rfl) hf rfl rfl rfl (fun _ => Y_move rfl rfl) ?_; clear hf; intro a hf
                refine mYp (i := 12) rfl (by kernel_rfl) (by kernel_rfl) hf rfl rfl rfl (fun _ => Y_extract rfl rfl rfl) ?_; clear hf; intro a hf
                refine mYp (i := 13) rfl (by kernel_rfl) (by kernel_rfl) hf rfl rfl rfl (fun _ => Y_extract rfl rfl rfl) ?_; clear hf; intro a hf
                refine mYp (i := 14) rfl (by kernel_rfl) (by kernel_rfl) hf rfl rfl rfl (fun _ => Y_assign rfl rfl) ?_; clear hf; intro a hf
                refine mYp (i := 15) rfl (by kernel_rfl) (by kernel_rfl) hf rfl rfl rfl (fun _ => Y_assign rfl rfl) ?_; clear hf; intro a hf
                refine mDone (by kernel_rfl) ?_
                clear hs0
                refine wpL_nil (then_normal ?_)
                exact ⟨r343.1, r343.2, Option.some.inj hj282, (FrD.pick (FrD.pick (FrD.pick (FrD.pick (FrD.pick (FrD.pick (FrD.pick (FrD.pick hf.none hf rfl) hf rfl) hf rfl) hf rfl) hf rfl) hf rfl) hf rfl) hf rfl), hs.sel [0, 1, 2, 3] (by decide)⟩
            · rintro a w ⟨x279, x280, hr_, hf, hs⟩
              subst hr_
              try dsimp only at hj215
              refine wpL_seq ?_
              obtain ⟨r350, hj351, hj215⟩ := bind_some hj215
              refine wpL_cut (fun a w => ∃ b349 : Bool, b349 = r350 ∧ Fr a 131 [(3, .slice A6 n7 c8), (4, .slice A13 n14 c15), (5, .int .i64 r11.2), (112, .bool b349)] ∧ St [] W w [.mat A6 n7 c8 28 2 vs10 r4, .row A13 n14 c15 2 1 (ints r11.1)]) ?_ ?_
              · refine wpL_region ?_
                refine sY hf hs rfl rfl rfl (Y_move rfl rfl) ?_; clear hf; intro a hf
                refine sY hf hs rfl rfl rfl (Y_neq rfl rfl rfl) ?_; clear hf; intro a hf
                refine sY hf hs rfl rfl rfl (Y_move rfl rfl) ?_; clear hf; intro a hf
                refine bsplit (x280 != 0) (fun hb352 => ?_) (fun hb352 => ?_)
                · have hj351 := bif_t hj351 hb352
                  refine sNo hf rfl rfl rfl (congrArg (fun b => some (Value.bool b)) hb352) rfl rfl rfl ?_; clear hf; intro a hf
                  refine sNo hf rfl rfl rfl (congrArg (fun b => some (Value.bool b)) hb352) rfl rfl rfl ?_; clear hf; intro a hf
                  refine sNo hf rfl rfl rfl (congrArg (fun b => some (Value.bool b)) hb352) rfl rfl rfl ?_; clear hf; intro a hf
                  refine sY hf hs rfl rfl rfl (Y_pickT rfl (congrArg (fun b => some (Value.bool b)) hb352) rfl) ?_; clear hf; intro a hf
                  refine sY hf hs rfl rfl rfl (Y_move rfl rfl) ?_; clear hf; intro a hf
                  refine sNo hf rfl rfl rfl rfl rfl rfl rfl ?_; clear hf; intro a hf
                  refine sNo hf rfl rfl rfl rfl rfl rfl rfl ?_; clear hf; intro a hf
                  refine sNo hf rfl rfl rfl rfl rfl rfl rfl ?_; clear hf; intro a hf
                  refine sNo hf rfl rfl rfl rfl rfl rfl rfl ?_; clear hf; intro a hf
                  refine sY hf hs rfl rfl rfl (Y_pickT rfl rfl rfl) ?_; clear hf; intro a hf
                  refine wpO_nil ?_
                  refine wpL_nil (then_normal ?_)
                  exact ⟨true, Option.some.inj hj351, (FrD.pick (FrD.pick (FrD.pick (FrD.pick hf.none hf rfl) hf rfl) hf rfl) hf rfl), hs.sel [0, 1] (by decide)⟩
                · have hj351 := bif_f hj351 hb352
                  refine sYg hf hs rfl rfl rfl (congrArg (fun b => some (Value.bool b)) hb352) rfl rfl rfl (Y_move rfl rfl) ?_; clear hf; intro a hf
                  refine sYg hf hs rfl rfl rfl (congrArg (fun b => some (Value.bool b)) hb352) rfl rfl rfl (Y_move rfl rfl) ?_; clear hf; intro a hf
                  refine sYg hf hs rfl rfl rfl (congrArg (fun b => some (Value.bool b)) hb352) rfl rfl rfl (Y_neq rfl rfl rfl) ?_; clear hf; intro a hf
                  refine sY hf hs rfl rfl rfl (Y_pickF rfl (congrArg (fun b => some (Value.bool b)) hb352) rfl) ?_; clear hf; intro a hf
                  refine sY hf hs rfl rfl rfl (Y_move rfl rfl) ?_; clear hf; intro a hf
                  refine bsplit (x279 != r34.1) (fun hb353 => ?_) (fun hb353 => ?_)
                  · have hj351 := bif_t hj351 hb353
                    refine sNo hf rfl rfl rfl (congrArg (fun b => some (Value.bool b)) hb353) rfl rfl rfl ?_; clear hf; intro a hf
                    refine sNo hf rfl rfl rfl (congrArg (fun b => some (Value.bool b)) hb353) rfl rfl rfl ?_; clear hf; intro a hf
                    refine sNo hf rfl rfl rfl (congrArg (fun b => some (Value.bool b)) hb353) rfl rfl rfl ?_; clear hf; intro a hf
                    refine sNo hf rfl rfl rfl (congrArg (fun b => some (Value.bool b)) hb353) rfl rfl rfl ?_; clear hf; intro a hf
                    refine sY hf hs rfl rfl rfl (Y_pickT rfl (congrArg (fun b => some (Value.bool b)) hb353) rfl) ?_; clear hf; intro a hf
                    refine wpO_nil ?_
                    refine wpL_nil (then_normal ?_)
                    exact ⟨true, Option.some.inj hj351, (FrD.pick (FrD.pick (FrD.pick (FrD.pick hf.none hf rfl) hf rfl) hf rfl) hf rfl), hs.sel [0, 1] (by decide)⟩
                  · have hj351 := bif_f hj351 hb353
                    refine sYg hf hs rfl rfl rfl (congrArg (fun b => some (Value.bool b)) hb353) rfl rfl rfl (Y_move rfl rfl) ?_; clear hf; intro a hf
                    refine sYg hf hs rfl rfl rfl (congrArg (fun b => some (Value.bool b)) hb353) rfl rfl rfl (Y_move rfl rfl) ?_; clear hf; intro a hf
                    obtain ⟨r354, hc355, hj351⟩ := bind_some hj351
                    refine sCallg hf rfl rfl rfl (congrArg (fun b => some (Value.bool b)) hb353) rfl rfl rfl rfl (cap := []) rfl rfl en39 (impl_IsCycle_ok F r23.1 A25 n26 c27 hn28 r23.2 A30 n31 c32 hn33 _ _ hc355 (hs.rdM (i := 2) rfl) (hs.rd (i := 3) rfl) (hs.capR (i := 3) rfl)) ?_; clear hf
                    rintro _ w ⟨rfl, hs1⟩ a hf
                    have hs : St [] W w [.mat A6 n7 c8 28 2 vs10 r4, .row A13 n14 c15 2 1 (ints r11.1), .mat A25 n26 c27 28 2 vs29 r23.1, .row A30 n31 c32 2 1 (ints r23.2)] := hs.ext hs1.below
                    clear hs1
                    refine sYg hf hs rfl rfl rfl (congrArg (fun b => some (Value.bool b)) hb353) rfl rfl rfl (Y_not rfl rfl) ?_; clear hf; intro a hf
                    refine sY hf hs rfl rfl rfl (Y_pickF rfl (congrArg (fun b => some (Value.bool b)) hb353) rfl) ?_; clear hf; intro a hf
                    refine wpO_nil ?_
                    refine wpL_nil (then_normal ?_)
                    exact ⟨(!r354), Option.some.inj hj351, (FrD.pick (FrD.pick (FrD.pick (FrD.pick hf.none hf rfl) hf rfl) hf rfl) hf rfl), hs.sel [0, 1] (by decide)⟩
              · rintro a w ⟨b349, hr_, hf, hs⟩
                subst hr_
                try dsimp only at hj215
                refine wpL_cond hf rfl (fun hb356 => ?_) (fun hb356 => ?_)
                · have hj215 := bif_t hj215 hb356
                  refine wpL_seq ?_
                  refine wpL_region ?_
                  refine sY hf hs rfl rfl rfl (Y_assign rfl rfl) ?_; clear hf; intro a hf
                  refine wpO_nil ?_
                  obtain rfl := Option.some.inj hj215
                  try dsimp only at hm
                  obtain rfl := Option.some.inj hm
                  refine wpL_ret (then_ret (ret_tmp rfl hf rfl ?_))
                  exact ⟨_, rfl, rfl, hs.sel [] (by decide)⟩
                · have hj215 := bif_f hj215 hb356
                  refine wpL_skip ?_
                  refine wpL_nil (then_normal ?_)
                  exact ⟨Option.some.inj hj215, (FrD.pick (FrD.pick (FrD.pick hf.none hf rfl) hf rfl) hf rfl), hs⟩
          · have hj215 := bif_f hj215 hb216
            refine wpL_skip ?_
            refine wpL_nil (then_normal ?_)
            exact ⟨Option.some.inj hj215, (FrD.pick (FrD.pick (FrD.pick hf.none hf rfl) hf rfl) hf rfl), hs.sel [0, 1] (by decide)⟩
        · rintro a w ⟨hr_, hf, hs⟩
          subst hr_
          try dsimp only at hm
          refine wpL_seq ?_
          refine wpL_seq ?_
          refine wpL_region ?_
          refine sY hf hs rfl rfl rfl (Y_move rfl rfl) ?_; clear hf; intro a hf
          refine sY hf hs rfl rfl rfl (Y_neq rfl rfl rfl) ?_; clear hf; intro a hf
          refine wpO_nil ?_
          refine wpL_cond hf rfl (fun hb357 => ?_) (fun hb357 => ?_)
          · have hm := bif_t hm hb357
            refine wpL_seq ?_
            refine wpL_region ?_
            refine sY hf hs rfl rfl rfl (Y_assign rfl rfl) ?_; clear hf; intro a hf
            refine wpO_nil ?_
            obtain rfl := Option.some.inj hm
            refine wpL_ret (ret_tmp rfl hf rfl ?_)
            exact ⟨_, rfl, rfl, hs.sel [] (by decide)⟩
          · have hm := bif_f hm hb357
            refine wpL_skip ?_
            refine wpL_seq ?_
            refine wpL_region ?_
            refine sY hf hs rfl rfl rfl (Y_move rfl rfl) ?_; clear hf; intro a hf
            refine sY hf hs rfl rfl rfl (Y_move rfl rfl) ?_; clear hf; intro a hf
            obtain ⟨r358, hc359, hm⟩ := bind_some hm
            refine sCall hf rfl rfl rfl rfl (cap := []) rfl rfl en36 (impl_CycleWeight_ok F r4 A6 n7 c8 hn9 r11.1 A13 n14 c15 hn16 _ _ hc359 (hs.rdM (i := 0) rfl) (hs.rd (i := 1) rfl) (hs.capR (i := 1) rfl)) ?_; clear hf
            rintro _ w ⟨rfl, hs1⟩ a hf
            have hs : St [] W w [.mat A6 n7 c8 28 2 vs10 r4, .row A13 n14 c15 2 1 (ints r11.1)] := hs.ext hs1.below
            clear hs1
            refine sY hf hs rfl rfl rfl (Y_move rfl rfl) ?_; clear hf; intro a hf
            refine sY hf hs rfl rfl rfl (Y_extract rfl rfl rfl) ?_; clear hf; intro a hf
            refine sY hf hs rfl rfl rfl (Y_extract rfl rfl rfl) ?_; clear hf; intro a hf
            refine sY hf hs rfl rfl rfl (Y_assign rfl rfl) ?_; clear hf; intro a hf
            refine sY hf hs rfl rfl rfl (Y_assign rfl rfl) ?_; clear hf; intro a hf
            refine wpO_nil ?_
            refine wpL_seq ?_
            obtain ⟨r363, hj364, hm⟩ := bind_some hm
            refine wpL_cut (fun a w => ∃ b362 : Bool, b362 = r363 ∧ Fr a 131 [(2, .bool b362)] ∧ St [] W w []) ?_ ?_
            · refine wpL_region ?_
              refine sY hf hs rfl rfl rfl (Y_move rfl rfl) ?_; clear hf; intro a hf
              refine sY hf hs rfl rfl rfl (Y_eql rfl rfl rfl) ?_; clear hf; intro a hf
              refine sY hf hs rfl rfl rfl (Y_move rfl rfl) ?_; clear hf; intro a hf
              refine bsplit (r358.2 == 3) (fun hb365 => ?_) (fun hb365 => ?_)
              · have hj364 := bif_t hj364 hb365
                refine sNo hf rfl rfl rfl (congrArg (fun b => some (Value.bool b)) hb365) rfl rfl rfl ?_; clear hf; intro a hf
                refine sNo hf rfl rfl rfl (congrArg (fun b => some (Value.bool b)) hb365) rfl rfl rfl ?_; clear hf; intro a hf
                refine sNo hf rfl rfl rfl (congrArg (fun b => some (Value.bool b)) hb365) rfl rfl rfl ?_; clear hf; intro a hf
                refine sNoU hf rfl rfl rfl rfl rfl rfl rfl ?_; clear hf; intro a hf
                refine sNoU hf rfl rfl rfl rfl rfl rfl rfl ?_; clear hf; intro a hf
                refine sNo hf rfl rfl rfl (congrArg (fun b => some (Value.bool b)) hb365) rfl rfl rfl ?_; clear hf; intro a hf
                refine sY hf hs rfl rfl rfl (Y_pickT rfl (congrArg (fun b => some (Value.bool b)) hb365) rfl) ?_; clear hf; intro a hf
                refine sY hf hs rfl rfl rfl (Y_assign rfl rfl) ?_; clear hf; intro a hf
                refine wpO_nil ?_
                refine wpL_nil (then_normal ?_)
                exact ⟨true, Option.some.inj hj364, (FrD.pick hf.none hf rfl), hs.sel [] (by decide)⟩
              · have hj364 := bif_f hj364 hb365
                refine sYg hf hs rfl rfl rfl (congrArg (fun b => some (Value.bool b)) hb365) rfl rfl rfl (Y_move rfl rfl) ?_; clear hf; intro a hf
                refine sYg hf hs rfl rfl rfl (congrArg (fun b => some (Value.bool b)) hb365) rfl rfl rfl (Y_eql rfl rfl rfl) ?_; clear hf; intro a hf
                refine sYg hf hs rfl rfl rfl (congrArg (fun b => some (Value.bool b)) hb365) rfl rfl rfl (Y_move rfl rfl) ?_; clear hf; intro a hf
                refine bsplit (r358.2 == 0) (fun hb366 => ?_) (fun hb366 => ?_)
                · have hj364 := bif_t hj364 hb366
                  refine sYg hf hs rfl rfl rfl (congrArg (fun b => some (Value.bool b)) hb366) rfl rfl rfl (Y_move rfl rfl) ?_; clear hf; intro a hf
                  refine sYg hf hs rfl rfl rfl (congrArg (fun b => some (Value.bool b)) hb366) rfl rfl rfl (Y_gtr rfl rfl rfl) ?_; clear hf; intro a hf
                  refine sYg hf hs rfl rfl rfl (congrArg (fun b => some (Value.bool b)) hb365) rfl rfl rfl (Y_pickT rfl (congrArg (fun b => some (Value.bool b)) hb366) rfl) ?_; clear hf; intro a hf
                  refine sY hf hs rfl rfl rfl (Y_pickF rfl (congrArg (fun b => some (Value.bool b)) hb365) rfl) ?_; clear hf; intro a hf
                  refine sY hf hs rfl rfl rfl (Y_assign rfl rfl) ?_; clear hf; intro a hf
                  refine wpO_nil ?_
                  refine wpL_nil (then_normal ?_)
                  exact ⟨(decide (0 < r358.1)), Option.some.inj hj364, (FrD.pick hf.none hf rfl), hs.sel [] (by decide)⟩
                · have hj364 := bif_f hj364 hb366
                  refine sNo hf rfl rfl rfl (congrArg (fun b => some (Value.bool b)) hb366) rfl rfl rfl ?_; clear hf; intro a hf
                  refine sNo hf rfl rfl rfl (congrArg (fun b => some (Value.bool b)) hb366) rfl rfl rfl ?_; clear hf; intro a hf
                  refine sYg hf hs rfl rfl rfl (congrArg (fun b => some (Value.bool b)) hb365) rfl rfl rfl (Y_pickF rfl (congrArg (fun b => some (Value.bool b)) hb366) rfl) ?_; clear hf; intro a hf
                  refine sY hf hs rfl rfl rfl (Y_pickF rfl (congrArg (fun b => some (Value.bool b)) hb365) rfl) ?_; clear hf; intro a hf
                  refine sY hf hs rfl rfl rfl (Y_assign rfl rfl) ?_; clear hf; intro a hf
                  refine wpO_nil ?_
                  refine wpL_nil (then_normal ?_)
                  exact ⟨false, Option.some.inj hj364, (FrD.pick hf.none hf rfl), hs.sel [] (by decide)⟩
            · rintro a w ⟨b362, hr_, hf, hs⟩
              subst hr_
              try dsimp only at hm
              obtain rfl := Option.some.inj hm
              refine wpL_ret (ret_tmp rfl hf rfl ?_)
              exact ⟨_, rfl, rfl, hs⟩

end Go.Proofs.Ytebmlphobgaboab
